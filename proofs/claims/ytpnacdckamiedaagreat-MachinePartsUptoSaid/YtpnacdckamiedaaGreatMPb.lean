/- Lemmas, walks and laws that the row of this claim rests on, merged into few texts: part 2. -/
import Derived.Test.YtpnacdckamiedaaGreatProg
import Derived.Test.YtpnacdckamiedaaGreatMPa
set_option linter.unusedVariables false
set_option linter.unusedSimpArgs false
open Option renaming bind_some → Yy
open List renaming getElem?_eq_getElem → Yz, length_append → Y0, length_map → Y1, length_singleton → Y2, mem_range → Y3, getElem_mem → Y4, length_cons → Y5, append_assoc → Y6, findSome?_eq_none_iff → Y7, take_length → Y8
open Int renaming toNat_natCast → Y9, eq_ofNat_of_zero_le → YA
open Bool renaming and_eq_true → YB, eq_iff_iff → YC
namespace Go.Proofs.YtpnacdckamiedaaGreat
open Go Go.RowKit Go.Pv Go.Proofs.Tryz
noncomputable def Bi (a0 : List Av) : Option ((List Av)) :=
 (app 5864062014805 ([] : List Av) a0).bind fun x55 => some x55
noncomputable def B8 (a0 : List UInt8) : Option ((List UInt8)) :=
 (app 140737488355328 ([] : List UInt8) a0).bind fun x55 => some x55
noncomputable def FB (a0 : Ah) (s4798 : (List Ad) × Int) : Option (((List Ad) × Int) ⊕ (((List Ad)))) :=
 if decide (s4798.2 < (a0.Classes.length : Int)) = true then ((idx a0.Classes s4798.2).bind fun x5638 => (Bi x5638.Fields).bind fun x5681 => (app 2932031007402 s4798.1 ([(⟨x5638.Name, x5638.Al, x5681⟩ : Ad)] : List Ad)).bind fun x5711 => some (.inl (x5711, wr (s4798.2 + 1)))) else (some (.inr s4798.1))
noncomputable def Fy (a0 : Ah) (s11794 : (List Am) × Int) : Option (((List Am) × Int) ⊕ (((List Am)))) :=
 if decide (s11794.2 < (a0.Funcs.length : Int)) = true then ((idx a0.Funcs s11794.2).bind fun x12873 => (B8 x12873.Sig.Ai).bind fun x12967 => (app 4398046511104 s11794.1 ([(⟨x12967, x12873.Sig.Result⟩ : Am)] : List Am)).bind fun x12987 => some (.inl (x12987, wr (s11794.2 + 1)))) else (some (.inr s11794.1))
noncomputable def I4 (a0 : Ah) (a1 : Int) : Option (AD × Bool) :=
 if decide (a1 < 0) = true then (some ((⟨[], [], 0⟩ : AD), false)) else (if decide (a1 ≥ (a0.Funcs.length : Int)) = true then (some ((⟨[], [], 0⟩ : AD), false)) else ((Ay (FB a0) ([], 0)).bind fun o4793 => ((Ay (Fy a0) ([], 0)).bind fun o11789 => (some ((⟨o4793, o11789, a1⟩ : AD), true)))))
noncomputable def CM (a0 : List UInt8) (s4805 : Int) : Option (Int ⊕ (Bool ⊕ Unit)) :=
 if decide (s4805 < (a0.length : Int)) = true then ((idx a0 s4805).bind fun x5645 => (if decide ((x5645.toNat : Int) ≥ 97) = true then (if decide ((x5645.toNat : Int) ≤ 122) = true then (some true) else (if decide ((x5645.toNat : Int) ≥ 65) = true then (some (decide ((x5645.toNat : Int) ≤ 90))) else (some false))) else (if decide ((x5645.toNat : Int) ≥ 65) = true then (some (decide ((x5645.toNat : Int) ≤ 90))) else (some false))).bind fun o5701 => (if o5701 = true then (some (.inl (wr (s4805 + 1)))) else (if decide (s4805 > 0) = true then (if decide ((x5645.toNat : Int) ≥ 48) = true then (if decide ((x5645.toNat : Int) ≤ 57) = true then (some (.inl (wr (s4805 + 1)))) else (if ((x5645.toNat : Int) == 95) = true then (some (.inl (wr (s4805 + 1)))) else (some (.inr (.inl false))))) else (if ((x5645.toNat : Int) == 95) = true then (some (.inl (wr (s4805 + 1)))) else (some (.inr (.inl false))))) else (some (.inr (.inl false)))))) else (some (.inr (.inr (()))))
noncomputable def Fa (a0 : List UInt8) : Option Bool :=
 if ((a0.length : Int) == 0) = true then (some false) else (if decide ((a0.length : Int) > 24) = true then (some false) else (((Ay (CM a0) 0 : Option (Bool ⊕ Unit))).bind fun o4801 => (match o4801 with | .inl p5760 => (some p5760) | .inr p4804 => (some true))))
noncomputable def I1  : Option ((List (List UInt8))) :=
 some ([[116, 111, 112], [105, 110, 116], [98, 111, 111, 108], [110, 117, 108, 108], [105, 110, 116, 115], [97, 110, 121]] : List (List UInt8))
noncomputable def AS (a0 : List (List UInt8)) (a1 : List UInt8) (s1193 : Int) : Option (Int ⊕ (Int ⊕ Unit)) :=
 if decide (s1193 < (a0.length : Int)) = true then ((idx a0 s1193).bind fun x1412 => if (a1 == x1412) = true then (some (.inr (.inl s1193))) else (some (.inl (wr (s1193 + 1))))) else (some (.inr (.inr (()))))
noncomputable def Cs (a0 : List (List UInt8)) (a1 : List UInt8) : Option Int :=
 ((Ay (AS a0 a1) 0 : Option (Int ⊕ Unit))).bind fun o1189 => (match o1189 with | .inl p1432 => (some p1432) | .inr p1192 => (some (-1)))
noncomputable def Bh (a0 : List (List UInt8)) (a1 : List UInt8) : Option Bool :=
 (Cs a0 a1).bind fun x14 => some (decide (x14 ≥ 0))
noncomputable def Gr (a0 : Ad) (a1 : Ad) : Option Bool :=
 some (a0.Name == a1.Name)
noncomputable def AB (a0 : List Ad) (a200 : Ad) (s2793 : Int) : Option (Int ⊕ (Int ⊕ Unit)) :=
 if decide (s2793 < (a0.length : Int)) = true then ((idx a0 s2793).bind fun x3312 => (Gr x3312 (⟨a200.Name, a200.Al, a200.Fields⟩ : Ad)).bind fun x3323 => if x3323 = true then (some (.inr (.inl s2793))) else (some (.inl (wr (s2793 + 1))))) else (some (.inr (.inr (()))))
noncomputable def Bn (a0 : List Ad) (a200 : Ad) : Option Int :=
 ((Ay (AB a0 a200) 0 : Option (Int ⊕ Unit))).bind fun o2789 => (match o2789 with | .inl p3352 => (some p3352) | .inr p2792 => (some (-1)))
noncomputable def AX (a0 : List Ad) (a200 : Ad) : Option Bool :=
 (Bn a0 (⟨a200.Name, a200.Al, a200.Fields⟩ : Ad)).bind fun x20 => some (decide (x20 ≥ 0))
noncomputable def Cy (x1593 : Ad) (s2634 : (List (List UInt8)) × Int) : Option (((List (List UInt8)) × Int) ⊕ (((List (List UInt8))))) :=
 if decide (s2634.2 < (x1593.Fields.length : Int)) = true then ((idx x1593.Fields s2634.2).bind fun x3102 => (app 8796093022208 s2634.1 ([x3102.Name] : List (List UInt8))).bind fun x3129 => some (.inl (x3129, wr (s2634.2 + 1)))) else (some (.inr s2634.1))
noncomputable def E6 (a0 : Int) (a1 : List Ad) (a2 : List (List UInt8)) : Option (Bool × (List (List UInt8))) :=
 (idx a1 a0).bind fun x1593 => (Ay (Cy x1593) (a2, 0)).bind fun o2629 => (some (true, o2629))
noncomputable def BA (a0 : List Ad) (a300 : List Ad) (s881 : (List (List UInt8)) × Int) : Option (((List (List UInt8)) × Int) ⊕ (((List (List UInt8))) ⊕ ((List (List UInt8))))) :=
 if decide (s881.2 ≥ 0) = true then (if decide (s881.2 < (a0.length : Int)) = true then ((E6 s881.2 a300 s881.1).bind fun x1254 => if x1254.1 = true then ((idx a0 s881.2).bind fun x1291 => if decide (x1291.Al ≥ s881.2) = true then (some (.inr (.inl x1254.2))) else (some (.inl (x1254.2, x1291.Al)))) else (some (.inr (.inr (x1254.2))))) else (some (.inr (.inr (s881.1))))) else (some (.inr (.inr (s881.1))))
noncomputable def CO (a0 : List Ad) (a1 : Int) (a300 : List Ad) (a301 : List (List UInt8)) : Option ((List (List UInt8))) :=
 ((Ay (BA a0 a300) (a301, a1) : Option (((List (List UInt8))) ⊕ ((List (List UInt8)))))).bind fun o875 => (match o875 with | .inl p1322 => (some p1322) | .inr p878 => (some p878))
noncomputable def Gi (a0 : List Ad) (a1 : UInt8) : Option Int :=
 if decide ((a1.toNat : Int) < 16) = true then (some (-1)) else (if decide (((Ew ((a1.toNat : Int) - 16)).toNat : Int) ≥ (a0.length : Int)) = true then (some (-1)) else (some ((Ew ((a1.toNat : Int) - 16)).toNat : Int)))
noncomputable def G7 (a0 : List Ad) (a1 : UInt8) : Option Bool :=
 if ((a1.toNat : Int) == 1) = true then (some true) else (if ((a1.toNat : Int) == 2) = true then (some true) else (if ((a1.toNat : Int) == 4) = true then (some true) else (if ((a1.toNat : Int) == 5) = true then (some true) else ((Gi a0 a1).bind fun x46 => some (decide (x46 ≥ 0))))))
noncomputable def CS (a0 : List Ad) (x5985 : Ad) (s9843 : (List (List UInt8)) × Int) : Option (((List (List UInt8)) × Int) ⊕ (Int ⊕ ((List (List UInt8))))) :=
 if decide (s9843.2 < (x5985.Fields.length : Int)) = true then ((idx x5985.Fields s9843.2).bind fun x11543 => (Fa x11543.Name).bind fun x11661 => if (!x11661) = true then (some (.inr (.inl 6))) else ((Bh s9843.1 x11543.Name).bind fun x11690 => if x11690 = true then (some (.inr (.inl 20))) else ((G7 a0 x11543.Fv).bind fun x11720 => if (!x11720) = true then (some (.inr (.inl 22))) else ((app 8796093022208 s9843.1 ([x11543.Name] : List (List UInt8))).bind fun x11746 => some (.inl (x11746, wr (s9843.2 + 1))))))) else (some (.inr (.inr (s9843.1))))
noncomputable def G5 (a0 : List Ad) (a1 : Int) : Option Int :=
 (idx a0 a1).bind fun x140 => (CO a0 x140.Al a0 []).bind fun x151 => (idx a0 a1).bind fun x5985 => ((Ay (CS a0 x5985) (x151, 0) : Option (Int ⊕ ((List (List UInt8)))))).bind fun o9837 => (match o9837 with | .inl p11786 => (some p11786) | .inr p9840 => (if decide ((p9840.length : Int) > 32) = true then (some 4) else (some 0)))
noncomputable def Dx (a0 : List Ad) (s22753 : Int) : Option (Int ⊕ ((Int × Int) ⊕ Unit)) :=
 if decide (s22753 < (a0.length : Int)) = true then ((idx a0 s22753).bind fun x26760 => (if decide (s22753 ≥ 32) = true then (some 4) else ((Fa x26760.Name).bind fun x27178 => if (!x27178) = true then (some 6) else ((I1).bind fun x27187 => (Bh x27187 x26760.Name).bind fun x27198 => if x27198 = true then (some 6) else ((FQ a0 0 s22753).bind fun x27235 => (AX x27235 (⟨x26760.Name, x26760.Al, x26760.Fields⟩ : Ad)).bind fun x27240 => if x27240 = true then (some 20) else (if decide (x26760.Al < (-1)) = true then (some 21) else (if decide (x26760.Al ≥ s22753) = true then (some 21) else ((G5 a0 s22753).bind fun x27276 => some x27276))))))).bind fun o27160 => (if (o27160 != 0) = true then (some (.inr (.inl (s22753, o27160)))) else (some (.inl (wr (s22753 + 1)))))) else (some (.inr (.inr (()))))
noncomputable def Gc (a0 : List Ad) : Option (Int × Int) :=
 ((Ay (Dx a0) 0 : Option ((Int × Int) ⊕ Unit))).bind fun o22749 => (match o22749 with | .inl p27304 => (some p27304) | .inr p22752 => (some (0, 0)))
noncomputable def Gl (a0 : List Ad) (a1 : UInt8) : Option Bool :=
 if decide ((a1.toNat : Int) ≤ 5) = true then (some true) else ((Gi a0 a1).bind fun x22 => some (decide (x22 ≥ 0)))
noncomputable def Gx (a0 : List Ad) (a1 : UInt8) : Option Bool :=
 (Gl a0 a1).bind fun x22 => if x22 = true then (if ((a1.toNat : Int) != 0) = true then (some ((a1.toNat : Int) != 3)) else (some false)) else (some false)
noncomputable def EK (a0 : UInt8) (a1 : AD) : Option Bool :=
 (Gx a1.Classes a0).bind fun x16 => some (!x16)
noncomputable def AL (a0 : List UInt8) (a200 : AD) (s2313 : Int) : Option (Int ⊕ (Int ⊕ Unit)) :=
 if decide (s2313 < (a0.length : Int)) = true then ((idx a0 s2313).bind fun x2742 => (EK x2742 (⟨a200.Classes, a200.AO, a200.Fn⟩ : AD)).bind fun x2747 => if x2747 = true then (some (.inr (.inl s2313))) else (some (.inl (wr (s2313 + 1))))) else (some (.inr (.inr (()))))
noncomputable def B6 (a0 : List UInt8) (a200 : AD) : Option Int :=
 ((Ay (AL a0 a200) 0 : Option (Int ⊕ Unit))).bind fun o2309 => (match o2309 with | .inl p2776 => (some p2776) | .inr p2312 => (some (-1)))
noncomputable def Bd (a0 : List UInt8) (a200 : AD) : Option Bool :=
 (B6 a0 (⟨a200.Classes, a200.AO, a200.Fn⟩ : AD)).bind fun x20 => some (decide (x20 ≥ 0))
noncomputable def HQ (a0 : Int) : Option (BM × Int) :=
 if decide (a0 < 0) = true then (some ((⟨0, 0, (Vector.replicate 24 (0 : UInt8))⟩ : BM), 1)) else (if decide (a0 > 16) = true then (some ((⟨0, 0, (Vector.replicate 24 (0 : UInt8))⟩ : BM), 1)) else (some ((⟨a0, 0, (Vector.replicate 24 (0 : UInt8))⟩ : BM), 0)))
noncomputable def D5 (a0 : List Ad) (a1 : List UInt8) (s6489 : (Vector UInt8 24) × Int) : Option (((Vector UInt8 24) × Int) ⊕ ((BM × Int) ⊕ ((Vector UInt8 24)))) :=
 if decide (s6489.2 < (a1.length : Int)) = true then ((idx a1 s6489.2).bind fun x7602 => (Gl a0 x7602).bind fun x7674 => if (!x7674) = true then (some (.inr (.inl ((⟨0, 0, (Vector.replicate 24 (0 : UInt8))⟩ : BM), 1)))) else (if ((x7602.toNat : Int) == 0) = true then (some (.inr (.inl ((⟨0, 0, (Vector.replicate 24 (0 : UInt8))⟩ : BM), 1)))) else (if ((x7602.toNat : Int) == 3) = true then (some (.inr (.inl ((⟨0, 0, (Vector.replicate 24 (0 : UInt8))⟩ : BM), 1)))) else ((idx s6489.1.toList s6489.2).bind fun x7737 => some (.inl ((NS s6489.1 s6489.2 x7602), wr (s6489.2 + 1))))))) else (some (.inr (.inr (s6489.1))))
noncomputable def GF (a0 : List Ad) (a1 : List UInt8) (a2 : Int) : Option (BM × Int) :=
 (HQ a2).bind fun x38 => if (x38.2 != 0) = true then (some ((⟨0, 0, (Vector.replicate 24 (0 : UInt8))⟩ : BM), 1)) else (if decide ((a1.length : Int) > 8) = true then (some ((⟨0, 0, (Vector.replicate 24 (0 : UInt8))⟩ : BM), 1)) else (if decide ((a1.length : Int) > a2) = true then (some ((⟨0, 0, (Vector.replicate 24 (0 : UInt8))⟩ : BM), 1)) else (((Ay (D5 a0 a1) (x38.1.KI, 0) : Option ((BM × Int) ⊕ ((Vector UInt8 24))))).bind fun o6485 => (match o6485 with | .inl p7764 => (some p7764) | .inr p6488 => (some ((⟨x38.1.Ak, x38.1.Height, p6488⟩ : BM), 0))))))
noncomputable def D3 (a0 : AD) (s5553 : Int) : Option (Int ⊕ (Int ⊕ Unit)) :=
 if decide (s5553 < (a0.AO.length : Int)) = true then ((idx a0.AO s5553).bind fun x6530 => if decide ((x6530.Ai.length : Int) > 8) = true then (some (.inr (.inl 4))) else ((Bd x6530.Ai (⟨a0.Classes, a0.AO, a0.Fn⟩ : AD)).bind fun x6582 => if x6582 = true then (some (.inr (.inl 22))) else (if ((x6530.Result.toNat : Int) != 0) = true then ((EK x6530.Result (⟨a0.Classes, a0.AO, a0.Fn⟩ : AD)).bind fun x6615 => if x6615 = true then (some (.inr (.inl 22))) else (some (.inl (wr (s5553 + 1))))) else (some (.inl (wr (s5553 + 1))))))) else (some (.inr (.inr (()))))
noncomputable def HC (a0 : AD) (a1 : Int) : Option Int :=
 (Gc a0.Classes).bind fun x57 => if (x57.2 != 0) = true then (some x57.2) else (if decide ((a0.AO.length : Int) > 64) = true then (some 4) else (((Ay (D3 a0) 0 : Option (Int ⊕ Unit))).bind fun o5549 => (match o5549 with | .inl p6776 => (some p6776) | .inr p5552 => (if decide (a0.Fn < 0) = true then (some 71) else (if decide (a0.Fn ≥ (a0.AO.length : Int)) = true then (some 71) else ((idx a0.AO a0.Fn).bind fun x6742 => (GF a0.Classes x6742.Ai a1).bind fun x6753 => some x6753.2))))))
noncomputable def Ca (a0 : Am) (a1 : List Int) (s3481 : Int) : Option (Int ⊕ (Bool ⊕ Unit)) :=
 if decide (s3481 < (a0.Ai.length : Int)) = true then ((idx a0.Ai s3481).bind fun x4088 => (idx a1 s3481).bind fun x4106 => if ((x4088.toNat : Int) == 1) = true then (if (x4106 == (wr (IntKind.i32.wrap x4106))) = true then (some (.inl (wr (s3481 + 1)))) else (if ((x4088.toNat : Int) == 2) = true then (if (x4106 == 0) = true then (some (.inl (wr (s3481 + 1)))) else (if (x4106 == 1) = true then (some (.inl (wr (s3481 + 1)))) else (some (.inr (.inl false))))) else (some (.inr (.inl false))))) else (if ((x4088.toNat : Int) == 2) = true then (if (x4106 == 0) = true then (some (.inl (wr (s3481 + 1)))) else (if (x4106 == 1) = true then (some (.inl (wr (s3481 + 1)))) else (some (.inr (.inl false))))) else (some (.inr (.inl false))))) else (some (.inr (.inr (()))))
noncomputable def E3 (a0 : Am) (a1 : List Int) : Option Bool :=
 if ((a1.length : Int) != (a0.Ai.length : Int)) = true then (some false) else (((Ay (Ca a0 a1) 0 : Option (Bool ⊕ Unit))).bind fun o3477 => (match o3477 with | .inl p4168 => (some p4168) | .inr p3480 => (some true)))
noncomputable def D9 (a0 : Ah) (s4558 : (List Ad) × Int) : Option (((List Ad) × Int) ⊕ (((List Ad)))) :=
 if decide (s4558.2 < (a0.Classes.length : Int)) = true then ((idx a0.Classes s4558.2).bind fun x5370 => (app 5864062014805 ([] : List Av) x5370.Fields).bind fun x5411 => (app 2932031007402 s4558.1 ([(⟨x5370.Name, x5370.Al, x5411⟩ : Ad)] : List Ad)).bind fun x5439 => some (.inl (x5439, wr (s4558.2 + 1)))) else (some (.inr s4558.1))
noncomputable def DC (a0 : Ah) (s11482 : (List A3) × Int) : Option (((List A3) × Int) ⊕ (((List A3)))) :=
 if decide (s11482.2 < (a0.Funcs.length : Int)) = true then ((idx a0.Funcs s11482.2).bind fun x12562 => (app 140737488355328 ([] : List UInt8) x12562.Sig.Ai).bind fun x12605 => (app 140737488355328 ([] : List UInt8) x12562.Code).bind fun x12639 => (app 1759218604441 s11482.1 ([(⟨x12562.Name, (⟨x12605, x12562.Sig.Result⟩ : Am), x12562.Ak, x12639⟩ : A3)] : List A3)).bind fun x12667 => some (.inl (x12667, wr (s11482.2 + 1)))) else (some (.inr s11482.1))
noncomputable def E1 (a0 : Ah) : Option Ah :=
 (Ay (D9 a0) ([], 0)).bind fun o4553 => ((Ay (DC a0) ([], 0)).bind fun o11477 => (some (⟨a0.Name, o4553, o11477, []⟩ : Ah)))
noncomputable def Gj (a0 : List Ad) (s6982 : (List Ad) × Int) : Option (((List Ad) × Int) ⊕ (((List Ad)))) :=
 if decide (s6982.2 < (a0.length : Int)) = true then ((idx a0 s6982.2).bind fun x8204 => (Bi x8204.Fields).bind fun x8247 => (app 2932031007402 s6982.1 ([(⟨x8204.Name, x8204.Al, x8247⟩ : Ad)] : List Ad)).bind fun x8337 => some (.inl (x8337, wr (s6982.2 + 1)))) else (some (.inr s6982.1))
noncomputable def Iw (a0 : List Ad) (a1 : Int) : Option ((Option Fi) × Int) :=
 if decide (a1 < 0) = true then (some ((none : Option Fi), 1)) else (if decide (a1 > 4096) = true then (some ((none : Option Fi), 1)) else ((Gc a0).bind fun x64 => if (x64.2 != 0) = true then (some ((none : Option Fi), x64.2)) else ((Ay (Gj a0) ([], 0)).bind fun o6977 => (some (some (⟨o6977, a1, 0, 0, ([] : List (Int × Option Nat))⟩ : Fi), 0)))))
noncomputable def Ds (a0 : UInt8) : Option Int :=
 if ((a0.toNat : Int) == 1) = true then (some 1) else (if ((a0.toNat : Int) == 2) = true then (some 2) else (some 3))
noncomputable def Gd (a0 : UInt8) : Option (Int × Int) :=
 if ((a0.toNat : Int) == 1) = true then (some (4, 0)) else ((if ((a0.toNat : Int) == 19) = true then (some true) else (some ((a0.toNat : Int) == 20))).bind fun o12802 => (if o12802 = true then (some (2, 0)) else ((if ((a0.toNat : Int) == 24) = true then (some true) else (some ((a0.toNat : Int) == 25))).bind fun o12847 => (if o12847 = true then (some (1, 1)) else ((if ((a0.toNat : Int) == 2) = true then (some true) else (if ((a0.toNat : Int) == 4) = true then (some true) else (some ((a0.toNat : Int) == 5)))).bind fun o12912 => (if o12912 = true then (some (1, 0)) else ((if ((a0.toNat : Int) == 21) = true then (some true) else (if ((a0.toNat : Int) == 23) = true then (some true) else (if ((a0.toNat : Int) == 30) = true then (some true) else (if ((a0.toNat : Int) == 31) = true then (some true) else (some ((a0.toNat : Int) == 32)))))).bind fun o12985 => (if o12985 = true then (some (1, 0)) else (some (0, 0))))))))))
noncomputable def ER (a0 : UInt8) : Option Int :=
 if decide ((a0.toNat : Int) ≥ 34) = true then (some 0) else ((Gd a0).bind fun x26 => some (wr ((wr (1 + x26.1)) + x26.2)))
noncomputable def CH (x699 : List UInt8) (s1148 : Int × Int) : Option ((Int × Int) ⊕ Int) :=
 if decide (s1148.2 < (x699.length : Int)) = true then ((idx x699 s1148.2).bind fun x1350 => some (.inl (Ti .i64 (OV .i64 s1148.1 8) (x1350.toNat : Int), wr (s1148.2 + 1)))) else (some (.inr s1148.1))
noncomputable def Ee (a0 : Int) (a1 : List UInt8) : Option (Int × (List UInt8)) :=
 (FQ a1 0 a0).bind fun x699 => (Ay (CH x699) (0, 0)).bind fun o1145 => ((FQ a1 a0 (a1.length : Int)).bind fun x1384 => if (a0 == 4) = true then (some (wr (IntKind.i32.wrap o1145), x1384)) else (some (o1145, x1384)))
noncomputable def Gf (a0 : List UInt8) (a1 : Int) : Option (Bs × Int) :=
 if decide (a1 < 0) = true then (some ((⟨0, 0, 0, 0⟩ : Bs), 1)) else (if decide (a1 > (a0.length : Int)) = true then (some ((⟨0, 0, 0, 0⟩ : Bs), 1)) else (if (a1 == (a0.length : Int)) = true then (some ((⟨0, 0, 0, 0⟩ : Bs), 2)) else ((idx a0 a1).bind fun x285 => (ER x285).bind fun x290 => if (x290 == 0) = true then (some ((⟨0, 0, 0, 0⟩ : Bs), 40)) else ((idx a0 a1).bind fun x339 => (ER x339).bind fun x344 => if decide ((wr ((a0.length : Int) - a1)) < x344) = true then (some ((⟨0, 0, 0, 0⟩ : Bs), 2)) else ((idx a0 a1).bind fun x395 => (FQ a0 (wr (a1 + 1)) (a0.length : Int)).bind fun x433 => (Gd x395).bind fun x467 => (Ee x467.1 x433).bind fun x504 => (Ee x467.2 x504.2).bind fun x554 => if ((x395.toNat : Int) == 2) = true then (if decide (x504.1 > 1) = true then (some ((⟨0, 0, 0, 0⟩ : Bs), 5)) else (some ((⟨a1, x395, x504.1, x554.1⟩ : Bs), 0))) else (some ((⟨a1, x395, x504.1, x554.1⟩ : Bs), 0)))))))
noncomputable def FT (a0 : Int) (a1 : List Int) : Option (Bool × (List Int)) :=
 (app 17592186044416 a1 ([a0] : List Int)).bind fun x32 => some (true, x32)
noncomputable def Bq (a0 : List Ad) (s881 : (List Int) × Int) : Option (((List Int) × Int) ⊕ (((List Int)) ⊕ ((List Int)))) :=
 if decide (s881.2 ≥ 0) = true then (if decide (s881.2 < (a0.length : Int)) = true then ((FT s881.2 s881.1).bind fun x1254 => if x1254.1 = true then ((idx a0 s881.2).bind fun x1291 => if decide (x1291.Al ≥ s881.2) = true then (some (.inr (.inl x1254.2))) else (some (.inl (x1254.2, x1291.Al)))) else (some (.inr (.inr (x1254.2))))) else (some (.inr (.inr (s881.1))))) else (some (.inr (.inr (s881.1))))
noncomputable def BQ (a0 : List Ad) (a1 : Int) (a300 : List Int) : Option ((List Int)) :=
 ((Ay (Bq a0) (a300, a1) : Option (((List Int)) ⊕ ((List Int))))).bind fun o875 => (match o875 with | .inl p1322 => (some p1322) | .inr p878 => (some p878))
noncomputable def C4 (a0 : List Ad) (x34 : (List Int)) (s1676 : (List Av) × Int) : Option (((List Av) × Int) ⊕ (((List Av)))) :=
 if decide (s1676.2 ≥ 0) = true then ((idx x34 s1676.2).bind fun x1961 => (idx a0 x1961).bind fun x1966 => (app 5864062014805 s1676.1 x1966.Fields).bind fun x1977 => some (.inl (x1977, wr (s1676.2 - 1)))) else (some (.inr s1676.1))
noncomputable def De (a0 : List Ad) (a1 : Int) : Option ((List Av)) :=
 (BQ a0 a1 []).bind fun x34 => (Ay (C4 a0 x34) ([], wr ((x34.length : Int) - 1))).bind fun o1671 => (some o1671)
noncomputable def KR (a0 : Int) : Option UInt8 :=
 some (Ew (16 + ((Ew a0).toNat : Int)))
noncomputable def Ci (a0 : List Ad) (s4426 : (List Ad) × Int) : Option (((List Ad) × Int) ⊕ (((List Ad)))) :=
 if decide (s4426.2 < (a0.length : Int)) = true then ((idx a0 s4426.2).bind fun x5224 => (Bi x5224.Fields).bind fun x5267 => (app 2932031007402 s4426.1 ([(⟨x5224.Name, x5224.Al, x5267⟩ : Ad)] : List Ad)).bind fun x5296 => some (.inl (x5296, wr (s4426.2 + 1)))) else (some (.inr s4426.1))
noncomputable def D6 (a0 : List Ad) : Option ((List Ad)) :=
 (Ay (Ci a0) ([], 0)).bind fun o4421 => (some o4421)
noncomputable def EA (a0 : Am) : Option Am :=
 (B8 a0.Ai).bind fun x44 => some (⟨x44, a0.Result⟩ : Am)
noncomputable def Cu (a0 : List UInt8) : Option ((List UInt8)) :=
 (app 140737488355328 ([] : List UInt8) a0).bind fun x55 => some x55
noncomputable def Es (a0 : A3) : Option A3 :=
 (EA (⟨a0.Sig.Ai, a0.Sig.Result⟩ : Am)).bind fun x44 => (Cu a0.Code).bind fun x82 => some (⟨a0.Name, (⟨x44.Ai, x44.Result⟩ : Am), a0.Ak, x82⟩ : A3)
noncomputable def Cw (a0 : Ah) (s6252 : (List A3) × Int) : Option (((List A3) × Int) ⊕ (((List A3)))) :=
 if decide (s6252.2 < (a0.Funcs.length : Int)) = true then ((idx a0.Funcs s6252.2).bind fun x7350 => (Es (⟨x7350.Name, (⟨x7350.Sig.Ai, x7350.Sig.Result⟩ : Am), x7350.Ak, x7350.Code⟩ : A3)).bind fun x7446 => (app 1759218604441 s6252.1 ([(⟨x7446.Name, (⟨x7446.Sig.Ai, x7446.Sig.Result⟩ : Am), x7446.Ak, x7446.Code⟩ : A3)] : List A3)).bind fun x7467 => some (.inl (x7467, wr (s6252.2 + 1)))) else (some (.inr s6252.1))
noncomputable def Cx (a0 : Ah) (s12480 : (List (List UInt8)) × Int) : Option (((List (List UInt8)) × Int) ⊕ (((List (List UInt8))))) :=
 if decide (s12480.2 < (a0.Cf.length : Int)) = true then ((idx a0.Cf s12480.2).bind fun x13360 => (Cu x13360).bind fun x13440 => (app 5864062014805 s12480.1 ([x13440] : List (List UInt8))).bind fun x13459 => some (.inl (x13459, wr (s12480.2 + 1)))) else (some (.inr s12480.1))
noncomputable def DI (a0 : Ah) : Option Ah :=
 (D6 a0.Classes).bind fun x53 => (Ay (Cw a0) ([], 0)).bind fun o6247 => ((Ay (Cx a0) ([], 0)).bind fun o12475 => (some (⟨a0.Name, x53, o6247, o12475⟩ : Ah)))
noncomputable def D8 (a0 : List Int) : Option ((List Int)) :=
 (app 17592186044416 ([] : List Int) a0).bind fun x55 => some x55
noncomputable def Ch (a0 : List Int) (a1 : List Int) (s1621 : Int) : Option (Int ⊕ (Bool ⊕ Unit)) :=
 if decide (s1621 < (a0.length : Int)) = true then ((idx a0 s1621).bind fun x1915 => (idx a1 s1621).bind fun x1920 => if (x1915 != x1920) = true then (some (.inr (.inl false))) else (some (.inl (wr (s1621 + 1))))) else (some (.inr (.inr (()))))
noncomputable def D4 (a0 : List Int) (a1 : List Int) : Option Bool :=
 if ((a0.length : Int) != (a1.length : Int)) = true then (some false) else (((Ay (Ch a0 a1) 0 : Option (Bool ⊕ Unit))).bind fun o1617 => (match o1617 with | .inl p1940 => (some p1940) | .inr p1620 => (some true)))
noncomputable def CC (a0 : CJ) (a1 : CJ) : Option Bool :=
 if (a0.Err == a1.Err) = true then (if (a0.Qh == a1.Qh) = true then (if (a0.Result == a1.Result) = true then (if (a0.Steps == a1.Steps) = true then (if (a0.Cells == a1.Cells) = true then ((D4 a0.Told a1.Told).bind fun x140 => some x140) else (some false)) else (some false)) else (some false)) else (some false)) else (some false)
noncomputable def Db (a0 : Ah) (s3400 : (List Am) × Int) : Option (((List Am) × Int) ⊕ (((List Am)))) :=
 if decide (s3400.2 < (a0.Funcs.length : Int)) = true then ((idx a0.Funcs s3400.2).bind fun x4011 => (app 4398046511104 s3400.1 ([(⟨x4011.Sig.Ai, x4011.Sig.Result⟩ : Am)] : List Am)).bind fun x4049 => some (.inl (x4049, wr (s3400.2 + 1)))) else (some (.inr s3400.1))
noncomputable def DO (a0 : Ah) : Option AD :=
 (Ay (Db a0) ([], 0)).bind fun o3395 => (some (⟨a0.Classes, o3395, 0⟩ : AD))
noncomputable def Ct (a0 : List UInt8) (s4897 : Int) : Option (Int ⊕ (Bool ⊕ Unit)) :=
 if decide (s4897 < (a0.length : Int)) = true then ((idx a0 s4897).bind fun x5758 => (if decide ((x5758.toNat : Int) ≥ 97) = true then (if decide ((x5758.toNat : Int) ≤ 122) = true then (some true) else (if decide ((x5758.toNat : Int) ≥ 65) = true then (some (decide ((x5758.toNat : Int) ≤ 90))) else (some false))) else (if decide ((x5758.toNat : Int) ≥ 65) = true then (some (decide ((x5758.toNat : Int) ≤ 90))) else (some false))).bind fun o5814 => (if (!o5814) = true then (if (s4897 == 0) = true then (some (.inr (.inl false))) else (if ((x5758.toNat : Int) != 95) = true then (if decide ((x5758.toNat : Int) < 48) = true then (some (.inr (.inl false))) else (if decide ((x5758.toNat : Int) > 57) = true then (some (.inr (.inl false))) else (some (.inl (wr (s4897 + 1)))))) else (some (.inl (wr (s4897 + 1)))))) else (some (.inl (wr (s4897 + 1)))))) else (some (.inr (.inr (()))))
noncomputable def CX (a0 : List UInt8) : Option Bool :=
 if decide ((a0.length : Int) < 1) = true then (some false) else (if decide ((a0.length : Int) > 24) = true then (some false) else (((Ay (Ct a0) 0 : Option (Bool ⊕ Unit))).bind fun o4893 => (match o4893 with | .inl p5872 => (some p5872) | .inr p4896 => (some true))))
noncomputable def Fu (a0 : UInt8) : Option ((List UInt8)) :=
 if ((a0.toNat : Int) == 0) = true then (some [116, 111, 112]) else (if ((a0.toNat : Int) == 1) = true then (some [105, 110, 116]) else (if ((a0.toNat : Int) == 2) = true then (some [98, 111, 111, 108]) else (if ((a0.toNat : Int) == 3) = true then (some [110, 117, 108, 108]) else (if ((a0.toNat : Int) == 4) = true then (some [105, 110, 116, 115]) else (if ((a0.toNat : Int) == 5) = true then (some [97, 110, 121]) else (some []))))))
noncomputable def BD (a0 : List UInt8) (s1425 : UInt8) : Option (UInt8 ⊕ (Bool ⊕ Unit)) :=
 if decide ((s1425.toNat : Int) ≤ 5) = true then ((Fu s1425).bind fun x1687 => if (x1687 == a0) = true then (some (.inr (.inl true))) else (some (.inl (Ew ((s1425.toNat : Int) + 1))))) else (some (.inr (.inr (()))))
noncomputable def DL (a0 : List UInt8) : Option Bool :=
 ((Ay (BD a0) 0 : Option (Bool ⊕ Unit))).bind fun o1421 => (match o1421 with | .inl p1712 => (some p1712) | .inr p1424 => (some false))
noncomputable def BS (a0 : List Ad) (s752 : Int × (List Int)) : Option ((Int × (List Int)) ⊕ (((List Int)))) :=
 if decide (s752.1 ≥ 0) = true then (if decide (s752.1 < (a0.length : Int)) = true then (if decide ((s752.2.length : Int) ≤ (a0.length : Int)) = true then ((app 17592186044416 s752.2 ([s752.1] : List Int)).bind fun x1096 => (idx a0 s752.1).bind fun x1105 => some (.inl (x1105.Al, x1096))) else (some (.inr s752.2))) else (some (.inr s752.2))) else (some (.inr s752.2))
noncomputable def Er (a0 : List Ad) (a1 : Int) : Option ((List Int)) :=
 (Ay (BS a0) (a1, [])).bind fun o747 => (some o747)
noncomputable def Dd (a0 : List Ad) (x16 : (List Int)) (s1572 : (List Av) × Int) : Option (((List Av) × Int) ⊕ (((List Av)))) :=
 if decide (s1572.2 ≥ 0) = true then ((idx x16 s1572.2).bind fun x1843 => (idx a0 x1843).bind fun x1848 => (app 5864062014805 s1572.1 x1848.Fields).bind fun x1859 => some (.inl (x1859, wr (s1572.2 - 1)))) else (some (.inr s1572.1))
noncomputable def DK (a0 : List Ad) (a1 : Int) : Option ((List Av)) :=
 (Er a0 a1).bind fun x16 => (Ay (Dd a0 x16) ([], wr ((x16.length : Int) - 1))).bind fun o1567 => (some o1567)
noncomputable def Cz (a0 : List Av) (a1 : List UInt8) (s1465 : Int) : Option (Int ⊕ (Bool ⊕ Unit)) :=
 if decide (s1465 < (a0.length : Int)) = true then ((idx a0 s1465).bind fun x1738 => if (x1738.Name == a1) = true then (some (.inr (.inl true))) else (some (.inl (wr (s1465 + 1))))) else (some (.inr (.inr (()))))
noncomputable def E8 (a0 : List Av) (a1 : List UInt8) : Option Bool :=
 ((Ay (Cz a0 a1) 0 : Option (Bool ⊕ Unit))).bind fun o1461 => (match o1461 with | .inl p1760 => (some p1760) | .inr p1464 => (some false))
noncomputable def Dw (a0 : List Ad) (a1 : UInt8) : Option Bool :=
 if decide ((a1.toNat : Int) ≤ 5) = true then (some true) else (if decide ((a1.toNat : Int) ≥ 16) = true then (some (decide (((Ew ((a1.toNat : Int) - 16)).toNat : Int) < (a0.length : Int)))) else (some false))
noncomputable def DJ (a0 : List Ad) (a1 : UInt8) : Option Bool :=
 (Dw a0 a1).bind fun x22 => if x22 = true then (if ((a1.toNat : Int) != 0) = true then (some ((a1.toNat : Int) != 3)) else (some false)) else (some false)
noncomputable def Cd (a0 : List Ad) (a1 : Int) (x28 : Ad) (s1755 : Int) : Option (Int ⊕ (Int ⊕ Unit)) :=
 if decide (s1755 < a1) = true then ((idx a0 s1755).bind fun x2056 => if (x2056.Name == x28.Name) = true then (some (.inr (.inl 20))) else (some (.inl (wr (s1755 + 1))))) else (some (.inr (.inr (()))))
noncomputable def BL (a0 : List Ad) (x28 : Ad) (x2126 : (List Av)) (s9602 : Int) : Option (Int ⊕ (Int ⊕ Unit)) :=
 if decide (s9602 < (x28.Fields.length : Int)) = true then ((idx x28.Fields s9602).bind fun x10937 => (CX x10937.Name).bind fun x10998 => if (!x10998) = true then (some (.inr (.inl 6))) else ((E8 x2126 x10937.Name).bind fun x11038 => if x11038 = true then (some (.inr (.inl 20))) else ((FQ x28.Fields 0 s9602).bind fun x11047 => (E8 x11047 x10937.Name).bind fun x11052 => if x11052 = true then (some (.inr (.inl 20))) else ((DJ a0 x10937.Fv).bind fun x11074 => if (!x11074) = true then (some (.inr (.inl 22))) else (some (.inl (wr (s9602 + 1)))))))) else (some (.inr (.inr (()))))
noncomputable def Ed (a0 : List Ad) (a1 : Int) : Option Int :=
 (idx a0 a1).bind fun x28 => if decide (a1 ≥ 32) = true then (some 4) else ((CX x28.Name).bind fun x99 => if (!x99) = true then (some 6) else ((DL x28.Name).bind fun x119 => if x119 = true then (some 6) else (((Ay (Cd a0 a1 x28) 0 : Option (Int ⊕ Unit))).bind fun o1751 => (match o1751 with | .inl p11130 => (some p11130) | .inr p1754 => (if decide (x28.Al < (-1)) = true then (some 21) else (if decide (x28.Al ≥ a1) = true then (some 21) else ((DK a0 x28.Al).bind fun x2126 => ((Ay (BL a0 x28 x2126) 0 : Option (Int ⊕ Unit))).bind fun o9598 => (match o9598 with | .inl p11129 => (some p11129) | .inr p9601 => (if decide ((x28.Fields.length : Int) > (wr (32 - (x2126.length : Int)))) = true then (some 4) else (some 0))))))))))
noncomputable def Cc (a0 : List Ad) (s1545 : Int) : Option (Int ⊕ ((Int × Int) ⊕ Unit)) :=
 if decide (s1545 < (a0.length : Int)) = true then ((Ed a0 s1545).bind fun x1832 => if (x1832 != 0) = true then (some (.inr (.inl (s1545, x1832)))) else (some (.inl (wr (s1545 + 1))))) else (some (.inr (.inr (()))))
noncomputable def Ec (a0 : List Ad) : Option (Int × Int) :=
 ((Ay (Cc a0) 0 : Option ((Int × Int) ⊕ Unit))).bind fun o1541 => (match o1541 with | .inl p1856 => (some p1856) | .inr p1544 => (some (0, 0)))
noncomputable def CY (a0 : List Ad) (a1 : UInt8) : Option Bool :=
 (Dw a0 a1).bind fun x22 => if x22 = true then (if ((a1.toNat : Int) != 0) = true then (some ((a1.toNat : Int) != 3)) else (some false)) else (some false)
noncomputable def BG (a0 : AD) (x68350 : Am) (s69356 : Int) : Option (Int ⊕ (Bool ⊕ Unit)) :=
 if decide (s69356 < (x68350.Ai.length : Int)) = true then ((idx x68350.Ai s69356).bind fun x69726 => (CY a0.Classes x69726).bind fun x69747 => if (!x69747) = true then (some (.inr (.inl false))) else (some (.inl (wr (s69356 + 1))))) else (some (.inr (.inr (()))))
noncomputable def BI (a0 : AD) (s58171 : Int) : Option (Int ⊕ (Bool ⊕ Unit)) :=
 if decide (s58171 < (a0.AO.length : Int)) = true then ((idx a0.AO s58171).bind fun x68350 => ((if decide ((x68350.Ai.length : Int) > 8) = true then (some (.inl false)) else (if ((x68350.Result.toNat : Int) != 0) = true then ((CY a0.Classes x68350.Result).bind fun x68507 => if (!x68507) = true then (some (.inl false)) else (some (.inr ((true, (!x68507)))))) else (some (.inr ((false, false))))) : Option (Bool ⊕ (Bool × Bool)))).bind fun o68482 => (match o68482 with | .inl p69771 => (some (.inr (.inl p69771))) | .inr p68485 => (((Ay (BG a0 x68350) 0 : Option (Bool ⊕ Unit))).bind fun o69352 => (match o69352 with | .inl p69770 => (some (.inr (.inl p69770))) | .inr p69355 => (some (.inl (wr (s58171 + 1)))))))) else (some (.inr (.inr (()))))
noncomputable def DN (a0 : AD) : Option Bool :=
 (Ec a0.Classes).bind fun x57 => if (x57.2 != 0) = true then (some false) else (if decide ((a0.AO.length : Int) > 64) = true then (some false) else (if decide (a0.Fn < 0) = true then (some false) else (if decide (a0.Fn ≥ (a0.AO.length : Int)) = true then (some false) else (((Ay (BI a0) 0 : Option (Bool ⊕ Unit))).bind fun o58167 => (match o58167 with | .inl p69778 => (some p69778) | .inr p58170 => (some true))))))
noncomputable def B0 (a0 : Am) (a1 : List Int) (s3041 : Int) : Option (Int ⊕ (Bool ⊕ Unit)) :=
 if decide (s3041 < (a0.Ai.length : Int)) = true then ((idx a0.Ai s3041).bind fun x3572 => (idx a1 s3041).bind fun x3590 => if ((x3572.toNat : Int) == 1) = true then (if decide (x3590 < (-2147483648)) = true then (some (.inr (.inl false))) else (if decide (x3590 > 2147483647) = true then (some (.inr (.inl false))) else (some (.inl (wr (s3041 + 1)))))) else (if ((x3572.toNat : Int) == 2) = true then (if (x3590 != 0) = true then (if (x3590 != 1) = true then (some (.inr (.inl false))) else (some (.inl (wr (s3041 + 1))))) else (some (.inl (wr (s3041 + 1))))) else (some (.inr (.inl false))))) else (some (.inr (.inr (()))))
noncomputable def Da (a0 : Am) (a1 : List Int) : Option Bool :=
 if ((a1.length : Int) != (a0.Ai.length : Int)) = true then (some false) else (((Ay (B0 a0 a1) 0 : Option (Bool ⊕ Unit))).bind fun o3037 => (match o3037 with | .inl p3640 => (some p3640) | .inr p3040 => (some true)))
noncomputable def Bt (a0 : Ah) (s3635 : Int) : Option (Int ⊕ (Int ⊕ Unit)) :=
 if decide (s3635 < (a0.Funcs.length : Int)) = true then ((idx a0.Funcs s3635).bind fun x4275 => if decide (x4275.Ak < (x4275.Sig.Ai.length : Int)) = true then (some (.inr (.inl 1))) else (if decide (x4275.Ak > 16) = true then (some (.inr (.inl 1))) else (if decide ((x4275.Code.length : Int) > 4096) = true then (some (.inr (.inl 1))) else (some (.inl (wr (s3635 + 1))))))) else (some (.inr (.inr (()))))
noncomputable def Du (a0 : Ah) (a1 : Int) (a2 : List Int) (a3 : Int) : Option Int :=
 (DO (⟨a0.Name, a0.Classes, a0.Funcs, a0.Cf⟩ : Ah)).bind fun x41 => (DN (⟨x41.Classes, x41.AO, x41.Fn⟩ : AD)).bind fun x94 => if (!x94) = true then (some 1) else (if decide (a3 < 0) = true then (some 1) else (if decide (a3 > 4096) = true then (some 1) else (((Ay (Bt a0) 0 : Option (Int ⊕ Unit))).bind fun o3631 => (match o3631 with | .inl p4498 => (some p4498) | .inr p3634 => (if decide (a1 < 0) = true then (some 71) else (if decide (a1 ≥ (a0.Funcs.length : Int)) = true then (some 71) else ((idx a0.Funcs a1).bind fun x4462 => (Da (⟨x4462.Sig.Ai, x4462.Sig.Result⟩ : Am) a2).bind fun x4475 => if (!x4475) = true then (some 151) else (some 0))))))))
noncomputable def Eo (a0 : UInt8) : Option (Int × Int) :=
 if ((a0.toNat : Int) == 1) = true then (some (4, 0)) else ((if ((a0.toNat : Int) == 19) = true then (some true) else (some ((a0.toNat : Int) == 20))).bind fun o223 => (if o223 = true then (some (2, 0)) else ((if ((a0.toNat : Int) == 24) = true then (some true) else (some ((a0.toNat : Int) == 25))).bind fun o254 => (if o254 = true then (some (1, 1)) else ((if ((a0.toNat : Int) == 2) = true then (some true) else (if ((a0.toNat : Int) == 4) = true then (some true) else (if ((a0.toNat : Int) == 5) = true then (some true) else (if ((a0.toNat : Int) == 21) = true then (some true) else (if ((a0.toNat : Int) == 23) = true then (some true) else (if ((a0.toNat : Int) == 30) = true then (some true) else (if ((a0.toNat : Int) == 31) = true then (some true) else (some ((a0.toNat : Int) == 32))))))))).bind fun o357 => (if o357 = true then (some (1, 0)) else (some (0, 0))))))))
noncomputable def Ft (a0 : UInt8) : Option Int :=
 if decide ((a0.toNat : Int) ≥ 34) = true then (some 0) else ((Eo a0).bind fun x26 => some (wr ((wr (1 + x26.1)) + x26.2)))
end Go.Proofs.YtpnacdckamiedaaGreat
namespace Go.Proofs.YtpnacdckamiedaaGreat
open Go Go.RowKit Go.Pv Go.Proofs.Tryz
def Ph (f : A3) : Prop := f.Sig.Ai.length ≤ Dl ∧ f.Code.length ≤ Dl
theorem Ss (l : List UInt8) (h : l.length ≤ Dl) : Cu l = some l := by
 unfold Cu
 rw [Cg (by simp only [Dl] at h; simp; omega)]; simp
theorem Td (l : List UInt8) (h : l.length ≤ Dl) : B8 l = some l := by
 unfold B8
 rw [Cg (by simp only [Dl] at h; simp; omega)]; simp
theorem Vz (s : Am) (h : s.Ai.length ≤ Dl) : EA s = some s := by
 unfold EA
 rw [Td _ h]; rfl
theorem U8 (f : A3) (h : Ph f) : Es f = some f := by
 unfold Es
 rw [show (⟨f.Sig.Ai, f.Sig.Result⟩ : Am) = f.Sig from rfl, Vz _ h.1, Yy, Ss _ h.2, Yy]
theorem Of (op : UInt8) : Gd op = Eo op := by
 unfold Gd Eo
 simp only [OQ, or_some, Yy]
 generalize (op.toNat : Int) = n
 cases h2 : (n == 2) <;> cases h4 : (n == 4) <;> cases h5 : (n == 5) <;> simp only [Bool.false_or, Bool.true_or, Bool.or_true, Bool.false_eq_true, if_false, if_true]
theorem size_eq (op : UInt8) : ER op = Ft op := by
 unfold ER Ft
 rw [Of]
def GU (op : UInt8) : Nat × Nat :=
 if op.toNat = 1 then (4, 0) else if op.toNat = 19 ∨ op.toNat = 20 then (2, 0) else if op.toNat = 24 ∨ op.toNat = 25 then (1, 1) else
 if op.toNat = 2 ∨ op.toNat = 4 ∨ op.toNat = 5 ∨ op.toNat = 21 ∨ op.toNat = 23 ∨ op.toNat = 30 ∨ op.toNat = 31 ∨ op.toNat = 32 then (1, 0) else (0, 0)
theorem Bj (a b : Nat) : ((a : Int) == (b : Int)) = decide (a = b) := by
 rw [YC, Ap, decide_eq_true_iff, Int.natCast_inj]
theorem Qf (op : UInt8) : Eo op = some (((GU op).1 : Int), ((GU op).2 : Int)) := by
 unfold Eo GU
 simp only [OQ, or_some, Yy]
 generalize op.toNat = n
 have e1 : ((n : Int) == 1) = decide (n = 1) := Bj n 1
 have e2 : ((n : Int) == 2) = decide (n = 2) := Bj n 2
 have e4 : ((n : Int) == 4) = decide (n = 4) := Bj n 4
 have e5 : ((n : Int) == 5) = decide (n = 5) := Bj n 5
 have e19 : ((n : Int) == 19) = decide (n = 19) := Bj n 19
 have e20 : ((n : Int) == 20) = decide (n = 20) := Bj n 20
 have e21 : ((n : Int) == 21) = decide (n = 21) := Bj n 21
 have e23 : ((n : Int) == 23) = decide (n = 23) := Bj n 23
 have e24 : ((n : Int) == 24) = decide (n = 24) := Bj n 24
 have e25 : ((n : Int) == 25) = decide (n = 25) := Bj n 25
 have e30 : ((n : Int) == 30) = decide (n = 30) := Bj n 30
 have e31 : ((n : Int) == 31) = decide (n = 31) := Bj n 31
 have e32 : ((n : Int) == 32) = decide (n = 32) := Bj n 32
 rw [e1, e2, e4, e5, e19, e20, e21, e23, e24, e25, e30, e31, e32]
 simp only [← Bool.decide_or, Aa]
 split
 ·rfl
 ·split
  ·rfl
  ·split
   ·rfl
   ·split <;> rfl
theorem Ni (op : UInt8) : (GU op).1 ≤ 4 ∧ (GU op).2 ≤ 1 := by
 unfold GU
 repeat' split
 all_goals simp
def Nh (op : UInt8) : Nat := if 34 ≤ op.toNat then 0 else 1 + (GU op).1 + (GU op).2
theorem ME (op : UInt8) : Ft op = some (Nh op : Int) := by
 have := Ni op
 unfold Ft Nh
 rw [Qf]
 by_cases h : 34 ≤ op.toNat
 ·rw [Ab (by simp; omega), Ab h]; rfl
 ·rw [Ac (by simp; omega), Ac h, Yy]
  dsimp only
  rw [CB (n := 1 + ((GU op).1 : Int)) (by omega) (by omega), CB (by omega) (by omega)]
  congr 1
def num (l : List UInt8) : Nat := l.foldl (fun n b => 256 * n + b.toNat) 0
theorem OT : ∀ (l : List UInt8), num l < 256 ^ l.length := by
 have key : ∀ (l : List UInt8) (n k : Nat), n < 256 ^ k → l.foldl (fun n b => 256 * n + b.toNat) n < 256 ^ (k + l.length) := by
  intro l
  induction l with
  | nil => intro n k h; simpa using h
  | cons b l ih =>
   intro n k h
   have hb := b.toNat_lt
   have := ih (256 * n + b.toNat) (k + 1) (by rw [Nat.pow_succ]; omega)
   rw [List.foldl_cons, Y5, show k + (l.length + 1) = k + 1 + l.length by omega]
   exact this
 intro l
 have := key l 0 0 (by simp)
 simpa [num] using this
theorem U0 (l : List UInt8) (b : UInt8) : num (l ++ [b]) = 256 * num l + b.toNat := by simp [num]
theorem VK {n : Nat} (b : UInt8) (h : n < 16777216) : Ti .i64 (OV .i64 (n : Int) 8) (b.toNat : Int) = ((256 * n + b.toNat : Nat) : Int) := by
 have hb := b.toNat_lt
 have e0 : OV .i64 (n : Int) 8 = ((256 * n : Nat) : Int) := by
  unfold OV
  rw [show min ((8 : Int)).toNat IntKind.i64.bits = 8 from rfl, IntKind.wrap_i64]
  omega
 rw [e0]
 unfold Ti
 have e1 : IntKind.i64.bits = 64 := rfl
 rw [e1]
 have ea : BitVec.ofInt 64 ((256 * n : Nat) : Int) = BitVec.ofNat 64 (256 * n) := by apply BitVec.eq_of_toNat_eq; simp <;> omega
 have eb : BitVec.ofInt 64 ((b.toNat : Nat) : Int) = BitVec.ofNat 64 b.toNat := by apply BitVec.eq_of_toNat_eq; simp <;> omega
 have e2 : 256 * n ||| b.toNat = 256 * n + b.toNat := by
  have h3 := Nat.two_pow_add_eq_or_of_lt (i := 8) (b := b.toNat) (by omega) n
  rw [show (2 : Nat) ^ 8 = 256 from rfl] at h3
  exact h3.symm
 rw [ea, eb, BitVec.toNat_or, BitVec.toNat_ofNat, BitVec.toNat_ofNat, Nat.mod_eq_of_lt (by omega), Nat.mod_eq_of_lt (by omega), e2, IntKind.wrap_i64]
 omega
def Po (w : Nat) (n : Nat) : Int := if w = 4 ∧ 2147483647 < n then (n : Int) - 4294967296 else n
theorem On (l : List UInt8) (w : Nat) (hw : w ≤ l.length) (h4 : w ≤ 4) (hl : l.length ≤ Dl) : Ee (w : Int) l = some (Po w (num (l.take w)), l.drop w) := by
 simp only [Dl] at hl
 unfold Ee
 rw [Km (by omega), Yy]
 simp only [Y9, Int.toNat_zero, List.drop_zero]
 have BU : (l.take w).length = w := by simp; omega
 generalize hM : l.take w = M at *
 rw [LN w (body := CH M) (fun i => ((num (M.take i) : Int), (i : Int))) (r := (num M : Int)) (fun i hi => by
  unfold CH
  dsimp only
  have hi' : i < M.length := by omega
  have hn := OT (M.take i)
  have hp : (M.take i).length ≤ 3 := by simp; omega
  have hp2 : 256 ^ (M.take i).length ≤ 256 ^ 3 := Nat.pow_le_pow_right (by decide) hp
  rw [Ab (by simpa using hi'), AV hi', Yy, VK _ (by omega), Ef (by omega), List.take_add_one, Yz hi', Option.toList_some, U0]) (by
  unfold CH
  dsimp only
  rw [Ac (by simp; omega), ← BU, Y8]) (s0 := (0, 0)) (by simp [num]), Yy, Km (by omega), Yy]
 have e : ((l.take (l.length : Int).toNat).drop (w : Int).toNat) = l.drop w := by simp
 rw [e]
 unfold Po
 have hn := OT M
 by_cases hw4 : w = 4
 ·subst hw4
  rw [Ab (by simp)]
  rw [BU] at hn
  congr 2
  have e32 : IntKind.i32.wrap (num M : Int) = if 2147483647 < num M then (num M : Int) - 4294967296 else num M := by
   rw [IntKind.wrap_i32]
   split <;> omega
  rw [e32]
  split
  ·rw [Ab (by omega), CB] <;> omega
  ·rw [Ac (by omega), CB] <;> omega
 ·rw [Ac (by simp; omega), Ac (by omega)]
def dec (b : List UInt8) (at_ : Nat) (op : UInt8) : Bs × Int :=
 if Nh op = 0 then (⟨0, 0, 0, 0⟩, 40) else if b.length < at_ + Nh op then (⟨0, 0, 0, 0⟩, 2) else
  let A := Po (GU op).1 (num ((b.drop (at_ + 1)).take (GU op).1))
  let B := Po (GU op).2 (num ((b.drop (at_ + 1 + (GU op).1)).take (GU op).2))
  if op.toNat = 2 ∧ 1 < A then (⟨0, 0, 0, 0⟩, 5) else (⟨at_, op, A, B⟩, 0)
theorem U7 (b : List UInt8) (hl : b.length ≤ Dl) (i : Nat) (hi : i < b.length) : Gf b (i : Int) = some (dec b i b[i]) := by
 simp only [Dl] at hl
 have hw := Ni b[i]
 unfold Gf dec
 rw [Ac (by simp), Ac (by simp; omega), Ac (by simp; omega), AV hi, Yy, size_eq, ME, Yy]
 generalize b[i] = op at hw
 by_cases h0 : Nh op = 0
 ·rw [Ab (by simp [h0]), Ab h0]
 ·have hs : Nh op = 1 + (GU op).1 + (GU op).2 := by
   unfold Nh at h0 ⊢
   split
   ·rename_i h; rw [Ab h] at h0; exact absurd rfl h0
   ·rfl
  rw [Ac (by simp; omega), Ac h0, Yy, size_eq, ME, Yy, CB (by omega) (by omega)]
  by_cases h1 : b.length < i + Nh op
  ·rw [Ab (by simp; omega), Ab h1]
  ·rw [Ac (by simp; omega), Ac h1, Yy, Ef (by omega), Km (by omega), Yy]
   have e1 : ((b.take (b.length : Int).toNat).drop ((i + 1 : Nat) : Int).toNat) = b.drop (i + 1) := by simp
   rw [e1, Of, Qf, Yy]
   dsimp only
   rw [On _ _ (by simp; omega) (by omega) (by simp only [Dl, List.length_drop]; omega), Yy]
   dsimp only
   rw [List.drop_drop, show i + 1 + (GU op).1 = i + 1 + (GU op).1 from rfl, On _ _ (by simp; omega) (by omega) (by simp only [Dl, List.length_drop]; omega), Yy]
   dsimp only
   by_cases h2 : op.toNat = 2
   ·rw [Ab (by simp [h2])]
    by_cases h3 : 1 < Po (GU op).1 (num ((b.drop (i + 1)).take (GU op).1))
    ·rw [Ab (by simp; omega), Ab ⟨h2, h3⟩]
    ·rw [Ac (by simp; omega), Ac (by omega)]
   ·rw [Ac (by simp; omega), Ac (by omega)]
end Go.Proofs.YtpnacdckamiedaaGreat
namespace Go.Proofs.YtpnacdckamiedaaGreat
open Go Go.RowKit Go.Pv Go.Proofs.Tryz
theorem I8 {R : Type} (n : Nat) {body : Int → Option (Int ⊕ R)} (P : Nat → Option R) {r0 : R} (hs : ∀ i, i < n → body (i : Int) = match P i with | some r => some (.inr r) | none => some (.inl ((i + 1 : Nat) : Int))) (he : body (n : Int) = some (.inr r0)) :
  Ay body 0 = some (((List.range n).findSome? P).getD r0) := by
 have key : ∀ k i, i + k = n → Ay body (i : Int) = some (((List.range' i k).findSome? P).getD r0) := by
  intro k
  induction k with
  | zero => intro i hi; have : i = n := by omega
            subst this; rw [AY he]; rfl
  | succ k ih =>
   intro i hi
   have h1 := hs i (by omega)
   rw [List.range'_succ, List.findSome?_cons]
   rcases hp : P i with _ | r
   ·rw [hp] at h1; rw [CN h1]; exact ih (i + 1) (by omega)
   ·rw [hp] at h1; rw [AY h1]; rfl
 have := key n 0 (by omega)
 rw [List.range_eq_range']
 exact this
theorem QV {n : Nat} (h : n < 256) : (Ew (n : Int)).toNat = n := by have := IY n; omega
theorem KC (t : UInt8) (h : 16 ≤ t.toNat) : (Ew ((t.toNat : Int) - 16)).toNat = t.toNat - 16 := by
 have := IY ((t.toNat : Int) - 16); have := t.toNat_lt; omega
def cls (l : List Ad) (t : UInt8) : Int := if 16 ≤ t.toNat ∧ t.toNat - 16 < l.length then ((t.toNat - 16 : Nat) : Int) else -1
def tv (l : List Ad) (t : UInt8) : Bool := decide (t.toNat ≤ 5) || (decide (16 ≤ t.toNat) && decide (t.toNat - 16 < l.length))
def st (l : List Ad) (t : UInt8) : Bool := tv l t && (t.toNat != 0 && t.toNat != 3)
theorem Ox (l : List Ad) (t : UInt8) : Gi l t = some (cls l t) := by
 unfold Gi cls
 by_cases h : 16 ≤ t.toNat
 ·rw [Ac (by simp; omega), KC t h]
  by_cases h2 : t.toNat - 16 < l.length
  ·rw [Ac (by simp; omega), Ab ⟨h, h2⟩]
  ·rw [Ab (by simp; omega), Ac (by omega)]
 ·rw [Ab (by simp; omega), Ac (by omega)]
theorem Nf (l : List Ad) (t : UInt8) : decide (cls l t ≥ 0) = (decide (16 ≤ t.toNat) && decide (t.toNat - 16 < l.length)) := by
 unfold cls
 by_cases h : 16 ≤ t.toNat ∧ t.toNat - 16 < l.length
 ·rw [Ab h]; simp [h.1, h.2]
 ·rw [Ac h]
  simp only [ge_iff_le, show ¬ ((0 : Int) ≤ -1) by omega, decide_false]
  rcases Nat.lt_or_ge t.toNat 16 with h1 | h1
  ·simp; omega
  ·have : ¬ (t.toNat - 16 < l.length) := fun h2 => h ⟨h1, h2⟩
   simp [this]
theorem O7 (l : List Ad) (t : UInt8) : Gl l t = some (tv l t) := by
 unfold Gl tv
 rw [Ox, Yy, Nf]
 by_cases h : t.toNat ≤ 5
 ·rw [Ab (by simp; omega)]; simp [h]
 ·rw [Ac (by simp; omega)]; simp [h]
theorem Om (l : List Ad) (t : UInt8) : Dw l t = some (tv l t) := by
 unfold Dw tv
 by_cases h : t.toNat ≤ 5
 ·rw [Ab (by simp; omega)]; simp [h]
 ·rw [Ac (by simp; omega)]
  by_cases h2 : 16 ≤ t.toNat
  ·rw [Ab (by simp; omega), KC t h2]
   simp only [h, h2, decide_false, decide_true, Bool.false_or, Bool.true_and, Option.some.injEq, Int.ofNat_lt]
  ·rw [Ac (by simp; omega)]; simp [h, h2]
theorem UP (t : UInt8) (k : Nat) : ((t.toNat : Int) != (k : Int)) = (t.toNat != k) := by
 rw [YC, B9, B9]; omega
theorem NN (l : List Ad) (t : UInt8) : (if tv l t = true then (if ((t.toNat : Int) != 0) = true then some ((t.toNat : Int) != 3) else some false) else some false) = some (st l t) := by
 unfold st
 rw [show ((t.toNat : Int) != 0) = (t.toNat != 0) from UP t 0, show ((t.toNat : Int) != 3) = (t.toNat != 3) from UP t 3]
 cases tv l t <;> cases (t.toNat != 0) <;> rfl
theorem Qn (l : List Ad) (t : UInt8) : Gx l t = some (st l t) := by
 unfold Gx
 rw [O7, Yy, NN]
theorem Qx (l : List Ad) (t : UInt8) : DJ l t = some (st l t) := by
 unfold DJ
 rw [Om, Yy, NN]
theorem Mr (l : List Ad) (t : UInt8) : CY l t = some (st l t) := by
 unfold CY
 rw [Om, Yy, NN]
theorem Rl (e : AD) (t : UInt8) : EK t e = some (!st e.Classes t) := by
 unfold EK
 rw [Qn, Yy]
theorem Qp (l : List Ad) (t : UInt8) : G7 l t = some (st l t) := by
 unfold G7
 rw [Ox, Yy, Nf]
 have e1 : ((t.toNat : Int) == 1) = decide (t.toNat = 1) := Bj _ 1
 have e2 : ((t.toNat : Int) == 2) = decide (t.toNat = 2) := Bj _ 2
 have e4 : ((t.toNat : Int) == 4) = decide (t.toNat = 4) := Bj _ 4
 have e5 : ((t.toNat : Int) == 5) = decide (t.toNat = 5) := Bj _ 5
 rw [e1, e2, e4, e5]
 unfold st tv
 simp only [Aa]
 have hb : ∀ k, (t.toNat != k) = !decide (t.toNat = k) := fun k => by rw [YC]; simp
 rw [hb, hb]
 split
 ·rename_i h; simp [h]
 ·split
  ·rename_i h; simp [h]
  ·split
   ·rename_i h; simp [h]
   ·split
    ·rename_i h; simp [h]
    ·rename_i h1 h2 h3 h4
     congr 1
     by_cases h0 : t.toNat = 0
     ·simp [h0]
     ·by_cases h5 : t.toNat = 3
      ·simp [h5]
      ·have : ¬ (t.toNat ≤ 5) := by omega
       simp [h0, h5, this]
def rf (t : UInt8) : Bool := decide (t.toNat = 3) || (decide (t.toNat = 4) || (decide (t.toNat = 5) || decide (16 ≤ t.toNat)))
def letter (x : UInt8) : Bool := (decide (97 ≤ x.toNat) && decide (x.toNat ≤ 122)) || (decide (65 ≤ x.toNat) && decide (x.toNat ≤ 90))
def inner (x : UInt8) : Bool := (decide (48 ≤ x.toNat) && decide (x.toNat ≤ 57)) || decide (x.toNat = 95)
def LR (l : List UInt8) (i : Nat) : Option Bool := match l[i]? with
 | some x => if letter x = true then none else if (decide (0 < i) && inner x) = true then none else some false
 | none => none
def I2 (l : List UInt8) : Bool := decide (1 ≤ l.length) && decide (l.length ≤ 24) && ((List.range l.length).findSome? (LR l)).isNone
theorem Oy (x : UInt8) : (if decide ((x.toNat : Int) ≥ 97) = true then (if decide ((x.toNat : Int) ≤ 122) = true then (some true) else (if decide ((x.toNat : Int) ≥ 65) = true then (some (decide ((x.toNat : Int) ≤ 90))) else (some false))) else (if decide ((x.toNat : Int) ≥ 65) = true then (some (decide ((x.toNat : Int) ≤ 90))) else (some false))) = some (letter x) := by
 unfold letter
 by_cases h1 : 97 ≤ x.toNat
 ·rw [Ab (by simp; omega)]
  by_cases h2 : x.toNat ≤ 122
  ·rw [Ab (by simp; omega)]; simp [h1, h2]
  ·rw [Ac (by simp; omega), Ab (by simp; omega)]
   have : ¬ (x.toNat ≤ 90) := by omega
   simp [h1, h2, this]; omega
 ·rw [Ac (by simp; omega)]
  by_cases h2 : 65 ≤ x.toNat
  ·rw [Ab (by simp; omega)]; simp [h1, h2]; omega
  ·rw [Ac (by simp; omega)]; simp [h1, h2]
theorem Q1 {l : List UInt8} (i : Nat) (b : Bool) (h : LR l i = some b) : b = false := by
 unfold LR at h
 split at h
 ·split at h
  ·cases h
  ·split at h
   ·cases h
   ·cases h; rfl
 ·cases h
theorem Hu {R S : Type} (n : Nat) (P : Nat → Option R) (f : R → S) : (List.range n).findSome? (fun i => (P i).map f) = ((List.range n).findSome? P).map f := by
 induction (List.range n) with
 | nil => rfl
 | cons x l ih => simp only [List.findSome?_cons]; rcases P x with _ | r <;> simp [ih]
theorem TB (x : UInt8) : inner x = true ↔ (48 ≤ (x.toNat : Int) ∧ (x.toNat : Int) ≤ 57) ∨ (x.toNat : Int) = 95 := by
 unfold inner
 simp only [Bool.or_eq_true, YB, Aa]
 omega
theorem Kp (l : List UInt8) : Fa l = some (I2 l) := by
 unfold Fa I2
 by_cases h0 : l.length = 0
 ·rw [Ab (by simp [h0])]; simp [h0]
 ·have h0' : ¬ (((l.length : Int) == 0) = true) := by rw [Ap]; omega
  rw [Ac h0']
  by_cases h1 : l.length ≤ 24
  ·rw [Ac (by rw [Aa]; omega)]
   have hl := I8 (R := Bool ⊕ Unit) l.length (body := CM l) (fun i => (LR l i).map .inl) (r0 := .inr ()) (fun i hi => by
    unfold CM
    rw [Ab (by rw [Aa]; omega), AV hi, Yy, Oy, Yy, Ef (by omega)]
    have hx : l[i]? = some l[i] := Yz hi
    unfold LR
    rw [hx]
    dsimp only
    generalize l[i] = x
    have hin := TB x
    rcases hl : letter x with _ | _
    ·simp only [Bool.false_eq_true, if_false]
     by_cases hc : (decide (0 < i) && inner x) = true
     ·rw [Ab hc]
      rw [YB, Aa] at hc
      have h1 := hin.1 hc.2
      simp only [Aa, Ap, Option.map_none]
      repeat' split
      all_goals first | rfl | (exfalso; omega)
     ·rw [Ac hc]
      rw [YB, Aa] at hc
      have h1 : ¬ (0 < i ∧ ((48 ≤ (x.toNat : Int) ∧ (x.toNat : Int) ≤ 57) ∨ (x.toNat : Int) = 95)) := fun h => hc ⟨h.1, hin.2 h.2⟩
      simp only [Aa, Ap, Option.map_some]
      repeat' split
      all_goals first | rfl | (exfalso; omega)
    ·rfl) (by
    unfold CM
    rw [Ac (by rw [Aa]; omega)])
   rw [hl, Yy, Hu]
   have a1 : 1 ≤ l.length := by omega
   rcases hf : (List.range l.length).findSome? (LR l) with _ | b
   ·simp [a1, h1]
   ·obtain ⟨i, _, hi⟩ := List.exists_of_findSome?_eq_some hf
    rw [Q1 i b hi]; simp
  ·rw [Ab (by rw [Aa]; omega)]; simp [h1]
theorem Ny (l : List UInt8) : CX l = some (I2 l) := by
 rw [← Kp]
 unfold CX Fa
 by_cases h0 : l.length = 0
 ·rw [Ab (by rw [Aa]; omega), Ab (by rw [Ap]; omega)]
 ·rw [Ac (c := decide ((l.length : Int) < 1) = true) (by rw [Aa]; omega), Ac (c := ((l.length : Int) == 0) = true) (by rw [Ap]; omega)]
  have e : Ct l = CM l := by
   funext s
   unfold Ct CM
   by_cases hs : s < (l.length : Int)
   ·rw [Ab (by simpa using hs), Ab (by simpa using hs)]
    rcases hx : idx l s with _ | x
    ·rfl
    ·simp only [Yy, Oy]
     have hs0 := (DT hx).1
     rcases letter x with _ | _
     ·simp only [Bool.false_eq_true, if_false, Bool.not_false, if_true, Aa, Ap, B9]
      repeat' split
      all_goals first | rfl | (exfalso; omega)
     ·rfl
   ·rw [Ac (by simpa using hs), Ac (by simpa using hs)]
  rw [e]
end Go.Proofs.YtpnacdckamiedaaGreat
namespace Go.Proofs.YtpnacdckamiedaaGreat
open Go Go.RowKit Go.Pv Go.Proofs.Tryz
def HV {α : Type} (l : List α) (p : α → Bool) (i : Nat) : Option Int := match l[i]? with
 | some x => if p x = true then some (i : Int) else none
 | none => none
theorem Jh {α : Type} {l : List α} {p : α → Bool} {i : Nat} (h : i < l.length) : HV l p i = if p l[i] = true then some (i : Int) else none := by
 unfold HV
 rw [Yz h]
theorem MI {α : Type} (l : List α) (p : α → Bool) : (List.range l.length).findSome? (HV l p) = none ↔ l.any p = false := by
 rw [Y7, List.any_eq_false]
 constructor
 ·intro h x hx
  obtain ⟨i, hi, rfl⟩ := List.mem_iff_getElem.1 hx
  have := h i (List.mem_range.2 hi)
  rw [Jh hi] at this
  intro hp
  rw [Ab hp] at this
  cases this
 ·intro h i hi
  rw [Jh (List.mem_range.1 hi), Ac (h _ (Y4 _))]
theorem Je {α : Type} (l : List α) (p : α → Bool) {body : Int → Option (Int ⊕ (Int ⊕ Unit))} (hs : ∀ i (h : i < l.length), body (i : Int) = if p l[i] = true then some (.inr (.inl (i : Int))) else some (.inl ((i + 1 : Nat) : Int))) (he : body (l.length : Int) = some (.inr (.inr ()))) :
  ∃ r, ((Ay body 0).bind fun o => match o with | .inl p => some p | .inr _ => some (-1)) = some r ∧ decide (r ≥ 0) = l.any p ∧ (0 ≤ r → ∃ i : Nat, r = i ∧ i < l.length ∧ ∀ h : i < l.length, p l[i] = true) := by
 have hl := I8 l.length (body := body) (fun i => (HV l p i).map .inl) (r0 := .inr ()) (fun i hi => by
  rw [hs i hi, Jh hi]
  split <;> rfl) he
 rw [hl, Yy, Hu]
 have hn := MI l p
 rcases hf : (List.range l.length).findSome? (HV l p) with _ | r
 ·rw [hn.1 hf]; exact ⟨-1, rfl, rfl, fun h => by omega⟩
 ·refine ⟨r, rfl, ?_⟩
  obtain ⟨i, hi, hr⟩ := List.exists_of_findSome?_eq_some hf
  have hi' := List.mem_range.1 hi
  rw [Jh hi'] at hr
  split at hr
  ·rename_i hp
   cases hr
   have ha : l.any p = true := by rw [List.any_eq_true]; exact ⟨_, Y4 hi', hp⟩
   rw [ha, Aa]
   exact ⟨by omega, fun _ => ⟨i, rfl, hi', fun _ => hp⟩⟩
  ·cases hr
theorem U5 {α : Type} (l : List α) (p : α → Bool) {body : Int → Option (Int ⊕ (Bool ⊕ Unit))} (hs : ∀ i (h : i < l.length), body (i : Int) = if p l[i] = true then some (.inr (.inl true)) else some (.inl ((i + 1 : Nat) : Int))) (he : body (l.length : Int) = some (.inr (.inr ()))) :
  ((Ay body 0).bind fun o => match o with | .inl p => some p | .inr _ => some false) = some (l.any p) := by
 have hl := I8 l.length (body := body) (fun i => (HV l p i).map fun _ => .inl true) (r0 := .inr ()) (fun i hi => by
  rw [hs i hi, Jh hi]
  split <;> rfl) he
 rw [hl, Yy, Hu]
 have hn := MI l p
 rcases hf : (List.range l.length).findSome? (HV l p) with _ | r
 ·rw [hn.1 hf]; rfl
 ·rcases hb : l.any p with _ | _
  ·rw [hn.2 hb] at hf; cases hf
  ·rfl
theorem Qe (l : List (List UInt8)) (hl : l.length ≤ Dl) (x : List UInt8) : Bh l x = some (l.any fun y => x == y) := by
 unfold Bh
 have hb : l.length ≤ 1048576 := hl
 obtain ⟨r, h1, h2, _⟩ := Je l (fun y => x == y) (body := AS l x) (fun i hi => by
  unfold AS
  rw [Ab (by rw [Aa]; omega), AV hi, Yy, Ef (by omega)]) (by
  unfold AS
  rw [Ac (by rw [Aa]; omega)])
 have h1' : Cs l x = some r := h1
 rw [h1', Yy, h2]
def wordsL : List (List UInt8) := [[116, 111, 112], [105, 110, 116], [98, 111, 111, 108], [110, 117, 108, 108], [105, 110, 116, 115], [97, 110, 121]]
theorem SK : I1 = some wordsL := rfl
theorem U1 (k : Nat) (h : k < 6) : Fu (UInt8.ofNat k) = some wordsL[k] := by
 match k, h with
 | 0, _ => rfl
 | 1, _ => rfl
 | 2, _ => rfl
 | 3, _ => rfl
 | 4, _ => rfl
 | 5, _ => rfl
theorem R1 (x : List UInt8) : DL x = some (wordsL.any fun y => x == y) := by
 unfold DL
 have step : ∀ k (h : k < 6), BD x (UInt8.ofNat k) = if (wordsL[k] == x) = true then some (.inr (.inl true)) else some (.inl (UInt8.ofNat (k + 1))) := by
  intro k h
  unfold BD
  have hk : (UInt8.ofNat k).toNat = k := by rw [UInt8.toNat_ofNat']; omega
  rw [Ab (by rw [hk, Aa]; omega), U1 k h, Yy, hk]
  congr 3
  apply UInt8.toNat_inj.1
  have := IY ((k : Int) + 1)
  rw [UInt8.toNat_ofNat']
  omega
 have key : ∀ n k, k + n = 6 → Ay (BD x) (UInt8.ofNat k) = some (if (wordsL.drop k).any (fun y => x == y) = true then (.inl true) else .inr ()) := by
  intro n
  induction n with
  | zero =>
   intro k hk
   have : k = 6 := by omega
   subst this
   rw [AY (r := .inr ())]
   ·rfl
   ·unfold BD; rfl
  | succ n ih =>
   intro k hk
   have h6 : k < 6 := by omega
   have hd : wordsL.drop k = wordsL[k] :: wordsL.drop (k + 1) := List.drop_eq_getElem_cons (by exact h6)
   have hs := step k h6
   rw [hd, List.any_cons]
   have hc : (x == wordsL[k]) = (wordsL[k] == x) := by rw [YC, Ap, Ap]; exact eq_comm
   rw [hc]
   by_cases he : (wordsL[k] == x) = true
   ·rw [Ab he] at hs
    rw [AY hs, he]; rfl
   ·rw [Ac he] at hs
    rw [CN hs, ih (k + 1) (by omega)]
    have : (wordsL[k] == x) = false := by simpa using he
    rw [this, Bool.false_or]
 have := key 6 0 rfl
 rw [show (0 : UInt8) = UInt8.ofNat 0 from rfl, this, Yy]
 rw [List.drop_zero]
 cases (wordsL.any fun y => x == y) <;> rfl
end Go.Proofs.YtpnacdckamiedaaGreat
namespace Go.Proofs.YtpnacdckamiedaaGreat
open Go Go.RowKit Go.Pv Go.Proofs.Tryz
def Cj (l : List Ad) (n : Nat) : Prop := ∀ i (h : i < l.length), i < n → -1 ≤ l[i].Al ∧ l[i].Al < i
def Oi (l : List Ad) : Nat → Int → List Nat
 | 0, _ => []
 | f + 1, c => if h : 0 ≤ c ∧ c < l.length then c.toNat :: Oi l f (l[c.toNat]'(by omega)).Al else []
def DF (l : List Ad) (c : Int) : List Nat := Oi l (c.toNat + 1) c
theorem JQ {l : List Ad} {f : Nat} {c : Int} (h : c < 0) : Oi l f c = [] := by
 cases f with
 | zero => rfl
 | succ f => unfold Oi; rw [dif_neg (by omega)]
theorem SI {l : List Ad} {n : Nat} (R : Cj l n) : ∀ (f f' : Nat) (c : Int), c < n → c < f → c < f' → Oi l f c = Oi l f' c
 | 0, f', c, _, h1, _ => by rw [JQ (by omega), JQ (by omega)]
 | f + 1, 0, c, _, _, h2 => by rw [JQ (by omega), JQ (by omega)]
 | f + 1, f' + 1, c, hn, h1, h2 => by
  unfold Oi
  by_cases h : 0 ≤ c ∧ c < l.length
  ·rw [dif_pos h, dif_pos h]
   congr 1
   have hr := R c.toNat (by omega) (by omega)
   exact SI R f f' _ (by omega) (by omega) (by omega)
  ·rw [dif_neg h, dif_neg h]
theorem Fg {l : List Ad} {c : Int} (h : c < 0) : DF l c = [] := JQ h
theorem ET {l : List Ad} {n : Nat} (R : Cj l n) (c : Nat) (h : c < l.length) (hn : c < n) : DF l (c : Int) = c :: DF l l[c].Al := by
 have hr := R c h hn
 unfold DF
 rw [Oi, dif_pos ⟨by omega, by omega⟩]
 simp only [Y9]
 congr 1
 exact SI R _ _ _ (by omega) (by omega) (by omega)
theorem NK {l : List Ad} {n : Nat} (R : Cj l n) : ∀ (k : Nat) (c : Int), c < k → c < n → c < l.length → ∀ x ∈ DF l c, (x : Int) ≤ c ∧ x < l.length
 | 0, c, hk, hn, hl, x, hx => by rw [Fg (by omega)] at hx; cases hx
 | k + 1, c, hk, hn, hl, x, hx => by
  by_cases h0 : 0 ≤ c
  ·obtain ⟨c, rfl⟩ := YA h0
   rw [ET R c (by omega) (by omega)] at hx
   have hr := R c (by omega) (by omega)
   rcases List.mem_cons.1 hx with rfl | hx
   ·omega
   ·have := NK R k l[c].Al (by omega) (by omega) (by omega) x hx
    omega
  ·rw [Fg (by omega)] at hx; cases hx
theorem K5 {l : List Ad} {n : Nat} (R : Cj l n) : ∀ (k : Nat) (c : Int), c < k → c < n → c < l.length → (DF l c).length ≤ (c + 1).toNat
 | 0, c, hk, hn, hl => by rw [Fg (by omega)]; simp
 | k + 1, c, hk, hn, hl => by
  by_cases h0 : 0 ≤ c
  ·obtain ⟨c, rfl⟩ := YA h0
   rw [ET R c (by omega) (by omega)]
   have hr := R c (by omega) (by omega)
   have := K5 R k l[c].Al (by omega) (by omega) (by omega)
   rw [Y5]
   omega
  ·rw [Fg (by omega)]; simp
def NY {σ : Type} (g : σ → Nat → σ) (go : σ → Nat → Bool) : List Nat → σ → σ
 | [], s => s
 | c :: r, s => if go s c = true then NY g go r (g s c) else g s c
theorem LA {σ : Type} {l : List Ad} {n : Nat} (R : Cj l n) {body : σ × Int → Option ((σ × Int) ⊕ (σ ⊕ σ))} (g : σ → Nat → σ) (go : σ → Nat → Bool) (I : σ → Int → Prop)
  (hb : ∀ s (c : Nat) (h : c < l.length), c < n → I s c → body (s, (c : Int)) = if go s c = true then some (.inl (g s c, l[c].Al)) else some (.inr (.inr (g s c))))
  (hI : ∀ s (c : Nat) (h : c < l.length), c < n → I s c → I (g s c) l[c].Al)
  (he : ∀ s (c : Int), c < 0 → body (s, c) = some (.inr (.inr s))) :
  ∀ (k : Nat) (c : Int) s, c < k → c < n → c < l.length → I s c → Ay body (s, c) = some (.inr (NY g go (DF l c) s))
 | 0, c, s, hk, hn, hl, hs => by rw [AY (he s c (by omega)), Fg (by omega)]; rfl
 | k + 1, c, s, hk, hn, hl, hs => by
  by_cases h0 : 0 ≤ c
  ·obtain ⟨c, rfl⟩ := YA h0
   have hr := R c (by omega) (by omega)
   have h1 := hb s c (by omega) (by omega) hs
   have h2 := hI s c (by omega) (by omega) hs
   rw [ET R c (by omega) (by omega), NY]
   by_cases hg : go s c = true
   ·rw [Ab hg] at h1
    rw [CN h1, Ab hg]
    exact LA R g go I hb hI he k _ _ (by omega) (by omega) (by omega) h2
   ·rw [Ac hg] at h1
    rw [AY h1, Ac hg]
  ·rw [AY (he s c (by omega)), Fg (by omega)]; rfl
theorem Xe {α β : Type} (f : α → β) (L : List α) : L.flatMap (fun c => [f c]) = L.map f := by induction L <;> simp_all
theorem Lr {α : Type} (f : Nat → List α) : ∀ (L : List Nat) (s : List α), NY (fun s c => s ++ f c) (fun _ _ => true) L s = s ++ L.flatMap f
 | [], s => by simp [NY]
 | c :: r, s => by rw [NY, Ab rfl, Lr f r, List.flatMap_cons, Y6]
def Eh (l : List Ad) : Prop := l.length ≤ Dl ∧ ∀ x ∈ l, x.Fields.length ≤ Dl
def G8 (l : List Ad) (c : Nat) : List Av := match l[c]? with
 | some x => x.Fields
 | none => []
theorem LG {l : List Ad} {c : Nat} (h : c < l.length) : G8 l c = l[c].Fields := by unfold G8; rw [Yz h]
theorem MD {l : List Ad} (h : Eh l) (c : Nat) : (G8 l c).length ≤ 1048576 := by
 unfold G8
 split
 ·rename_i x hx; exact h.2 x (List.mem_of_getElem? hx)
 ·simp
theorem Sa (l : List Ad) (h : Eh l) (c : Nat) (hc : c < l.length) (s : List (List UInt8)) (hs : s.length ≤ 1099511627776) :
  E6 (c : Int) l s = some (true, s ++ (G8 l c).map (·.Name)) := by
 unfold E6
 rw [AV hc, Yy]
 have hf : (l[c]).Fields.length ≤ 1048576 := h.2 _ (Y4 hc)
 have := LN l[c].Fields.length (body := Cy l[c]) (fun i => (s ++ (l[c].Fields.take i).map (·.Name), (i : Int))) (r := s ++ l[c].Fields.map (·.Name)) (fun i hi => by
  unfold Cy
  dsimp only
  rw [Ab (by rw [Aa]; omega), AV hi, Yy, Cg (by simp; omega), Yy, Ef (by omega), IK, Y6]) (by
  unfold Cy
  dsimp only
  rw [Ac (by rw [Aa]; omega), Y8]) (s0 := (s, 0)) (by simp)
 rw [this, Yy, LG hc]
theorem Qw (l : List Ad) (h : Eh l) {n : Nat} (R : Cj l n) (hn32 : n ≤ 64) (c : Int) (hn : c < n) (hl : c < l.length) :
  CO l c l [] = some ((DF l c).flatMap fun c => (G8 l c).map (·.Name)) := by
 have key := LA R (body := BA l l) (fun s c => s ++ (G8 l c).map (·.Name)) (fun _ _ => true) (fun s c => (s.length : Int) + (c + 1) * 1048576 ≤ 1099511627776) (fun s c hc hcn hI => by
  unfold BA
  dsimp only
  have hr := R c hc hcn
  rw [Ab (by rw [Aa]; omega), Ab (by rw [Aa]; omega), Sa l h c hc s (by omega), Yy]
  dsimp only
  rw [Ab rfl, AV hc, Yy, Ac (by rw [Aa]; omega), Ab rfl]) (fun s c hc hcn hI => by
  have hr := R c hc hcn
  have := MD h c
  rw [Y0, Y1]
  omega) (fun s c hc => by
  unfold BA
  dsimp only
  rw [Ac (by rw [Aa]; omega)]) (c.toNat + 1) c [] (by omega) hn hl (by simp; omega)
 unfold CO
 rw [key, Yy, Lr]
 rfl
theorem RD (l : List Ad) {n : Nat} (R : Cj l n) (hnb : n ≤ 1048576) (c : Int) (hn : c < n) (hl : c < l.length) :
  BQ l c [] = some ((DF l c).map fun (c : Nat) => (c : Int)) := by
 have key := LA R (body := Bq l) (fun s c => s ++ [(c : Int)]) (fun _ _ => true) (fun s c => (s.length : Int) + (c + 1) ≤ 1099511627776) (fun s c hc hcn hI => by
  unfold Bq FT
  dsimp only
  have hr := R c hc hcn
  rw [Ab (by rw [Aa]; omega), Ab (by rw [Aa]; omega), Cg (by simp; omega), Yy, Yy]
  dsimp only
  rw [Ab rfl, AV hc, Yy, Ac (by rw [Aa]; omega), Ab rfl]) (fun s c hc hcn hI => by
  have hr := R c hc hcn
  rw [Y0, Y2]
  omega) (fun s c hc => by
  unfold Bq
  dsimp only
  rw [Ac (by rw [Aa]; omega)]) (c.toNat + 1) c [] (by omega) hn hl (by simp; omega)
 unfold BQ
 rw [key, Yy, Lr (fun c => [(c : Int)])]
 rw [List.nil_append, Xe (fun c : Nat => (c : Int))]
theorem Un (l : List Ad) {n : Nat} (R : Cj l n) (hnb : n ≤ 1048576) (c : Int) (hn : c < n) (hl : c < l.length) :
  Er l c = some ((DF l c).map fun (c : Nat) => (c : Int)) := by
 have key : ∀ (k : Nat) (c : Int) (out : List Int), c < k → c < n → c < l.length → (out.length : Int) + (c + 1) ≤ l.length ∧ (out.length : Int) + (c + 1) ≤ 1048577 → Ay (BS l) (c, out) = some (out ++ (DF l c).map fun (c : Nat) => (c : Int)) := by
  intro k
  induction k with
  | zero =>
   intro c out hk hn hl ho
   rw [Fg (by omega), AY (r := out)]
   ·simp
   ·unfold BS
    rw [Ac (by rw [Aa]; dsimp only; omega)]
  | succ k ih =>
   intro c out hk hn hl ho
   by_cases h0 : 0 ≤ c
   ·obtain ⟨c, rfl⟩ := YA h0
    have hr := R c (by omega) (by omega)
    rw [ET R c (by omega) (by omega), CN (s' := (l[c].Al, out ++ [(c : Int)]))]
    ·rw [ih _ _ (by omega) (by omega) (by omega) (by rw [Y0, Y2]; omega)]
     simp
    ·unfold BS
     dsimp only
     rw [Ab (by rw [Aa]; omega), Ab (by rw [Aa]; omega), Ab (by rw [Aa]; omega), Cg (by simp; omega), Yy, AV (by omega), Yy]
   ·rw [Fg (by omega), AY (r := out)]
    ·simp
    ·unfold BS
     rw [Ac (by rw [Aa]; dsimp only; omega)]
 unfold Er
 rw [key (c.toNat + 1) c [] (by omega) hn hl (by simp; omega), Yy, List.nil_append]
def BR (l : List Ad) (c : Int) : List Av := (DF l c).reverse.flatMap (G8 l)
theorem O9 (l : List Ad) (h : Eh l) (L : List Nat) (hL : ∀ x ∈ L, x < l.length) (hb : L.length ≤ 1048576) {body : List Av × Int → Option ((List Av × Int) ⊕ List Av)}
  (he : body = C4 l (L.map fun (c : Nat) => (c : Int))) : Ay body ([], wr (((L.map fun (c : Nat) => (c : Int)).length : Int) - 1)) = some (L.reverse.flatMap (G8 l)) := by
 subst he
 rw [Y1, CB (by omega) (by omega)]
 have key : ∀ (k : Nat) (acc : List Av), k ≤ L.length → acc.length + k * 1048576 ≤ 1099511627776 → Ay (C4 l (L.map fun (c : Nat) => (c : Int))) (acc, (k : Int) - 1) = some (acc ++ (L.take k).reverse.flatMap (G8 l)) := by
  intro k
  induction k with
  | zero =>
   intro acc _ _
   rw [AY (r := acc)]
   ·simp
   ·unfold C4
    rw [Ac (by rw [Aa]; dsimp only; omega)]
  | succ k ih =>
   intro acc hk ha
   have hx : L[k]'(by omega) < l.length := hL _ (Y4 _)
   have BU : (G8 l (L[k]'(by omega))).length ≤ 1048576 := MD h _
   rw [CN (s' := (acc ++ G8 l (L[k]'(by omega)), (k : Int) - 1))]
   ·rw [ih _ (by omega) (by rw [Y0]; omega), show L.take (k + 1) = L.take k ++ [L[k]'(by omega)] by rw [List.take_add_one, Yz (by omega)]; rfl, List.reverse_append, List.reverse_singleton, List.singleton_append, List.flatMap_cons, Y6]
   ·unfold C4
    dsimp only
    rw [show (((k + 1 : Nat) : Int) - 1) = (k : Int) by omega, Ab (by rw [Aa]; omega), AV (by rw [Y1]; omega), Yy, List.getElem_map, AV hx, Yy,
     Cg (by rw [LG hx] at BU; omega), Yy, CB (by omega) (by omega), LG hx]
 have := key L.length [] (Nat.le_refl _) (by simp; omega)
 rw [this, Y8, List.nil_append]
theorem RN (l : List Ad) (h : Eh l) {n : Nat} (R : Cj l n) (hnb : n ≤ 1048576) (c : Int) (hn : c < n) (hl : c < l.length) : De l c = some (BR l c) := by
 unfold De
 have BU := K5 R (c.toNat + 1) c (by omega) hn hl
 rw [RD l R hnb c hn hl, Yy, O9 l h (DF l c) (fun x hx => (NK R (c.toNat + 1) c (by omega) hn hl x hx).2) (by
  omega) rfl, Yy]
 rfl
theorem RG (l : List Ad) (h : Eh l) {n : Nat} (R : Cj l n) (hnb : n ≤ 1048576) (c : Int) (hn : c < n) (hl : c < l.length) : DK l c = some (BR l c) := by
 unfold DK
 have BU := K5 R (c.toNat + 1) c (by omega) hn hl
 have hd := O9 l h (DF l c) (fun x hx => (NK R (c.toNat + 1) c (by omega) hn hl x hx).2) (by omega) (body := Dd l ((DF l c).map fun (c : Nat) => (c : Int))) rfl
 rw [Un l R hnb c hn hl, Yy, hd, Yy]
 rfl
end Go.Proofs.YtpnacdckamiedaaGreat
namespace Go.Proofs.YtpnacdckamiedaaGreat
open Go Go.RowKit Go.Pv Go.Proofs.Tryz
theorem Nx {R : Type} (n : Nat) {body : Int → Option (Int ⊕ R)} (f : Nat → Option R) {r0 : R}
  (hs : ∀ i, i < n → (∀ j, j < i → f j = none) → body (i : Int) = match f i with | some r => some (.inr r) | none => some (.inl ((i + 1 : Nat) : Int))) (he : (∀ j, j < n → f j = none) → body (n : Int) = some (.inr r0)) :
  Ay body 0 = some (((List.range n).findSome? f).getD r0) := by
 have key : ∀ k i, i + k = n → (∀ j, j < i → f j = none) → Ay body (i : Int) = some (((List.range' i k).findSome? f).getD r0) := by
  intro k
  induction k with
  | zero =>
   intro i hi hj
   have : i = n := by omega
   subst this
   rw [AY (he hj)]; rfl
  | succ k ih =>
   intro i hi hj
   have h1 := hs i (by omega) hj
   rw [List.range'_succ, List.findSome?_cons]
   rcases hf : f i with _ | r
   ·rw [hf] at h1
    rw [CN h1]
    exact ih (i + 1) (by omega) (fun j hj' => by
     rcases Nat.lt_succ_iff_lt_or_eq.1 hj' with h | h
     ·exact hj j h
     ·rw [h]; exact hf)
   ·rw [hf] at h1
    rw [AY h1]; rfl
 have := key n 0 (by omega) (fun j h => by omega)
 rw [List.range_eq_range']
 exact this
theorem OD (l : List (List UInt8)) (hl : l.length ≤ 1099511627776) (x : List UInt8) : Bh l x = some (l.any fun y => x == y) := by
 unfold Bh
 obtain ⟨r, h1, h2, _⟩ := Je l (fun y => x == y) (body := AS l x) (fun i hi => by
  unfold AS
  rw [Ab (by rw [Aa]; omega), AV hi, Yy, Ef (by omega)]) (by
  unfold AS
  rw [Ac (by rw [Aa]; omega)])
 have h1' : Cs l x = some r := h1
 rw [h1', Yy, h2]
theorem Rh (l : List Av) (hl : l.length ≤ 1099511627776) (x : List UInt8) : E8 l x = some (l.any fun y => y.Name == x) := by
 have := U5 l (fun y => y.Name == x) (body := Cz l x) (fun i hi => by
  unfold Cz
  rw [Ab (by rw [Aa]; omega), AV hi, Yy, Ef (by omega)]) (by
  unfold Cz
  rw [Ac (by rw [Aa]; omega)])
 exact this
theorem Sw {R S : Type} (L : List Nat) (P : Nat → Option R) (f : R → S) : L.findSome? (fun i => (P i).map f) = (L.findSome? P).map f := by
 induction L with
 | nil => rfl
 | cons x l ih => simp only [List.findSome?_cons]; rcases P x with _ | r <;> simp [ih]
def JX (l : List Ad) (all own : List Av) (i : Nat) : Option Int := match own[i]? with
 | none => none
 | some f => if I2 f.Name = false then some 6 else if (all.any fun y => y.Name == f.Name) = true ∨ ((own.take i).any fun y => y.Name == f.Name) = true then some 20 else if st l f.Fv = false then some 22 else none
def HI (l : List Ad) (all own : List Av) : Int := ((List.range own.length).findSome? (JX l all own)).getD (if 32 < all.length + own.length then 4 else 0)
def EO (l : List Ad) (c : Nat) : Int := match l[c]? with
 | none => 0
 | some x => if 32 ≤ c then 4 else if I2 x.Name = false then 6 else if (wordsL.any fun y => x.Name == y) = true then 6 else if ((l.take c).any fun y => y.Name == x.Name) = true then 20
  else if x.Al < -1 ∨ (c : Int) ≤ x.Al then 21 else HI l (BR l x.Al) x.Fields
theorem Mq {α β : Type} (f : α → List β) (n : Nat) : ∀ (L : List α), (∀ x ∈ L, (f x).length ≤ n) → (L.flatMap f).length ≤ L.length * n
 | [], _ => by simp
 | x :: L, h => by
  rw [List.flatMap_cons, Y0, Y5]
  have h1 := h x (by simp)
  have h2 := Mq f n L (fun y hy => h y (by simp [hy]))
  rw [Nat.succ_mul]
  omega
theorem Le {α β : Type} (f : α → List β) : ∀ (L : List α), (L.reverse.flatMap f).length = (L.flatMap f).length
 | [] => rfl
 | x :: L => by
  rw [List.reverse_cons, List.flatMap_append, Y0, Le f L, List.flatMap_cons, Y0]
  simp
  omega
theorem SO (l : List Ad) (p : Int) (x : List UInt8) : (((DF l p).flatMap fun c => (G8 l c).map (·.Name)).any fun y => x == y) = ((BR l p).any fun y => y.Name == x) := by
 rw [YC, List.any_eq_true, List.any_eq_true]
 constructor
 ·rintro ⟨y, hy, he⟩
  obtain ⟨c, hc, hy⟩ := List.mem_flatMap.1 hy
  obtain ⟨f, hf, rfl⟩ := List.mem_map.1 hy
  refine ⟨f, List.mem_flatMap.2 ⟨c, by simpa using hc, hf⟩, ?_⟩
  rw [Ap] at he ⊢
  exact he.symm
 ·rintro ⟨f, hf, he⟩
  obtain ⟨c, hc, hf⟩ := List.mem_flatMap.1 hf
  refine ⟨f.Name, List.mem_flatMap.2 ⟨c, by simpa using hc, List.mem_map.2 ⟨f, hf, rfl⟩⟩, ?_⟩
  rw [Ap] at he ⊢
  exact he.symm
theorem Tt (l : List Ad) (p : Int) : ((DF l p).flatMap fun c => (G8 l c).map (·.Name)).length = (BR l p).length := by
 unfold BR
 rw [Le, List.length_flatMap, List.length_flatMap]
 simp
theorem Mv (l : List Ad) (h : Eh l) {n : Nat} (R : Cj l n) (hn32 : n ≤ 64) (c : Int) (hn : c < n) (hl : c < l.length) : (BR l c).length ≤ 67108864 := by
 unfold BR
 have h1 := Mq (G8 l) 1048576 (DF l c).reverse (fun x _ => MD h x)
 have h2 := K5 R (c.toNat + 1) c (by omega) hn hl
 rw [List.length_reverse] at h1
 have h3 : (DF l c).length ≤ 64 := by omega
 omega
theorem NA (M : List (List UInt8)) (own : List Av) (i : Nat) (x : List UInt8) : ((M ++ (own.take i).map (·.Name)).any fun y => x == y) = ((M.any fun y => x == y) || ((own.take i).any fun y => y.Name == x)) := by
 rw [List.any_append, List.any_map]
 congr 2
 funext y
 show (x == y.Name) = (y.Name == x)
 rw [YC, Ap, Ap]; exact eq_comm
theorem Qv (l : List Ad) (h : Eh l) {n : Nat} (R : Cj l n) (hn32 : n ≤ 64) (c : Nat) (hc : c < l.length) (hp : l[c].Al < n) (hpl : l[c].Al < l.length) :
  G5 l (c : Int) = some (HI l (BR l l[c].Al) l[c].Fields) := by
 unfold G5
 rw [AV hc, Yy, Qw l h R hn32 _ hp hpl, Yy, Yy]
 have hN := Tt l l[c].Al
 have hA := SO l l[c].Al
 have hL := Mv l h R hn32 _ hp hpl
 have hf : l[c].Fields.length ≤ 1048576 := h.2 _ (Y4 hc)
 generalize hM : ((DF l l[c].Al).flatMap fun c => (G8 l c).map (·.Name)) = M at *
 generalize hall : BR l l[c].Al = all at *
 generalize hown : l[c] = x at *
 -- the loop
 have key : ∀ k i, i + k = x.Fields.length → Ay (CS l x) (M ++ (x.Fields.take i).map (·.Name), (i : Int)) = some (((List.range' i k).findSome? fun i => (JX l all x.Fields i).map Sum.inl).getD (.inr (M ++ x.Fields.map (·.Name)))) := by
  intro k
  induction k with
  | zero =>
   intro i hi
   have : i = x.Fields.length := by omega
   subst this
   rw [AY (r := .inr (M ++ x.Fields.map (·.Name)))]
   ·rfl
   ·unfold CS
    dsimp only
    rw [Ac (by rw [Aa]; omega), Y8]
  | succ k ih =>
   intro i hi
   have hi' : i < x.Fields.length := by omega
   have hb : CS l x (M ++ (x.Fields.take i).map (·.Name), (i : Int)) = match JX l all x.Fields i with
    | some e => some (.inr (.inl e))
    | none => some (.inl (M ++ (x.Fields.take (i + 1)).map (·.Name), ((i + 1 : Nat) : Int))) := by
    unfold CS JX
    dsimp only
    rw [Ab (by rw [Aa]; omega), AV hi', Yy, Kp, Yy, Yz hi']
    dsimp only
    rcases hn : I2 x.Fields[i].Name with _ | _
    ·rfl
    ·rw [Ac (c := (!true) = true) (by simp), Ac (c := true = false) (by simp), OD _ (by simp; omega), Yy, NA, hA]
     by_cases h1 : (all.any fun y => y.Name == x.Fields[i].Name) = true ∨ ((x.Fields.take i).any fun y => y.Name == x.Fields[i].Name) = true
     ·rw [Ab (by rw [Bool.or_eq_true]; exact h1), Ab h1]
     ·rw [Ac (by rw [Bool.or_eq_true]; exact h1), Ac h1, Qp, Yy]
      rcases hs : st l x.Fields[i].Fv with _ | _
      ·rfl
      ·rw [Ac (c := (!true) = true) (by simp), Ac (c := true = false) (by simp), Cg (by simp; omega), Yy, Ef (by omega), IK (·.Name) _ i hi', Y6]
   rw [List.range'_succ, List.findSome?_cons]
   rcases hff : JX l all x.Fields i with _ | e
   ·rw [hff] at hb
    rw [CN hb]
    exact ih (i + 1) (by omega)
   ·rw [hff] at hb
    rw [AY hb]; rfl
 have := key x.Fields.length 0 (by omega)
 rw [List.take_zero, List.map_nil, List.append_nil] at this
 rw [show ((0 : Nat) : Int) = 0 from rfl] at this
 rw [this, Yy]
 unfold HI
 rw [List.range_eq_range']
 have hm := Sw (List.range' 0 x.Fields.length) (JX l all x.Fields) (Sum.inl : Int → Int ⊕ List (List UInt8))
 rw [hm]
 rcases (List.range' 0 x.Fields.length).findSome? (JX l all x.Fields) with _ | e
 ·simp only [Option.map_none, Option.getD_none]
  rw [Y0, Y1, hN]
  by_cases h32 : 32 < all.length + x.Fields.length
  ·rw [Ab (by rw [Aa]; omega), Ab h32]
  ·rw [Ac (by rw [Aa]; omega), Ac h32]
 ·rfl
end Go.Proofs.YtpnacdckamiedaaGreat
namespace Go.Proofs.YtpnacdckamiedaaGreat
open Go Go.RowKit Go.Pv Go.Proofs.Tryz
theorem JW {α β : Type} {f g : α → Option β} : ∀ {l : List α}, (∀ x ∈ l, f x = g x) → l.findSome? f = l.findSome? g
 | [], _ => rfl
 | x :: l, h => by rw [List.findSome?_cons, List.findSome?_cons, h x (by simp), JW fun y hy => h y (by simp [hy])]
theorem M8 {α β : Type} (o : Option α) (d : β) : ((o.map (Sum.inl : α → α ⊕ β)).getD (.inr d)) = match o with | some e => .inl e | none => .inr d := by cases o <;> rfl
theorem Qr (l : List Ad) (h : Eh l) (x : Ad) (all : List Av) (hL : all.length ≤ 67108864) (hf : x.Fields.length ≤ 1048576) :
  ((Ay (BL l x all) 0).bind fun o => match o with
   | .inl p => some p
   | .inr _ => if decide ((x.Fields.length : Int) > wr (32 - (all.length : Int))) = true then some 4 else some 0) = some (HI l all x.Fields) := by
 have hl := I8 (R := Int ⊕ Unit) x.Fields.length (body := BL l x all) (fun i => (JX l all x.Fields i).map .inl) (r0 := .inr ()) (fun i hi => by
  unfold BL JX
  rw [Ab (by rw [Aa]; omega), AV hi, Yy, Ny, Yy, Yz hi]
  dsimp only
  rcases hn : I2 x.Fields[i].Name with _ | _
  ·rfl
  ·rw [Ac (c := (!true) = true) (by simp), Ac (c := true = false) (by simp), Rh _ (by omega), Yy]
   rcases h1 : (all.any fun y => y.Name == x.Fields[i].Name) with _ | _
   ·rw [Ac (c := false = true) (by simp), Km (by omega), Yy, Y9, Int.toNat_zero, List.drop_zero, Rh _ (by rw [List.length_take]; omega), Yy]
    rcases h2 : ((x.Fields.take i).any fun y => y.Name == x.Fields[i].Name) with _ | _
    ·rw [Ac (c := false = true) (by simp), Ac (c := false = true ∨ false = true) (by simp), Qx, Yy]
     rcases hs : st l x.Fields[i].Fv with _ | _
     ·rfl
     ·rw [Ac (c := (!true) = true) (by simp), Ac (c := true = false) (by simp), Ef (by omega)]; rfl
    ·rw [Ab rfl, Ab (Or.inr rfl)]; rfl
   ·rw [Ab rfl, Ab (Or.inl rfl)]; rfl) (by
  unfold BL
  rw [Ac (by rw [Aa]; omega)])
 rw [hl, Yy, Hu, M8]
 unfold HI
 rcases (List.range x.Fields.length).findSome? (JX l all x.Fields) with _ | e
 ·simp only [Option.getD_none]
  rw [CB (by omega) (by omega)]
  by_cases h32 : 32 < all.length + x.Fields.length
  ·rw [Ab (by rw [Aa]; omega), Ab h32]
  ·rw [Ac (by rw [Aa]; omega), Ac h32]
 ·rfl
theorem SH (l : List Ad) (h : Eh l) (c : Nat) (hc : c ≤ l.length) (x : Ad) : AX (l.take c) x = some ((l.take c).any fun y => y.Name == x.Name) := by
 have hb : l.length ≤ 1048576 := h.1
 unfold AX
 obtain ⟨r, h1, h2, _⟩ := Je (l.take c) (fun y => y.Name == x.Name) (body := AB (l.take c) x) (fun i hi => by
  unfold AB Gr
  have hi' : i < c := by rw [List.length_take] at hi; omega
  rw [Ab (by rw [Aa]; omega), AV hi, Yy, Yy, Ef (by omega)]) (by
  unfold AB
  rw [Ac (by rw [Aa]; omega)])
 have h1' : Bn (l.take c) x = some r := h1
 rw [show (⟨x.Name, x.Al, x.Fields⟩ : Ad) = x from rfl, h1', Yy, h2]
theorem Tg (l : List Ad) (h : Eh l) (c : Nat) (hc : c < l.length) (R : Cj l c) : Ed l (c : Int) = some (EO l c) := by
 have hb : l.length ≤ 1048576 := h.1
 unfold Ed EO
 rw [AV hc, Yy, Yz hc]
 dsimp only
 by_cases h32 : 32 ≤ c
 ·rw [Ab (by rw [Aa]; omega), Ab h32]
 rw [Ac (by rw [Aa]; omega), Ac h32, Ny, Yy]
 rcases I2 l[c].Name with _ | _
 ·rfl
 rw [Ac (c := (!true) = true) (by simp), Ac (c := true = false) (by simp), R1, Yy]
 rcases (wordsL.any fun y => l[c].Name == y) with _ | _
 rotate_left
 ·rfl
 rw [Ac (c := false = true) (by simp), Ac (c := false = true) (by simp)]
 have hl := I8 (R := Int ⊕ Unit) c (body := Cd l (c : Int) l[c]) (fun i => (HV l (fun y => y.Name == l[c].Name) i).map fun _ => .inl 20) (r0 := .inr ()) (fun i hi => by
  unfold Cd
  rw [Ab (by rw [Aa]; omega), AV (by omega), Yy, Ef (by omega), Jh (by omega)]
  split <;> rfl) (by
  unfold Cd
  rw [Ac (by rw [Aa]; omega)])
 rw [hl, Yy, Hu]
 have hany : ((List.range c).findSome? (HV l fun y => y.Name == l[c].Name)).isSome = ((l.take c).any fun y => y.Name == l[c].Name) := by
  have hn := MI (l.take c) fun y => y.Name == l[c].Name
  have e : (List.range (l.take c).length).findSome? (HV (l.take c) fun y => y.Name == l[c].Name) = (List.range c).findSome? (HV l fun y => y.Name == l[c].Name) := by
   rw [List.length_take, Nat.min_eq_left (by omega)]
   apply JW
   intro i hi
   have hi' := List.mem_range.1 hi
   unfold HV
   rw [List.getElem?_take_of_lt hi']
  rw [e] at hn
  rcases hf : (List.range c).findSome? (HV l fun y => y.Name == l[c].Name) with _ | r
  ·rw [hn.1 hf]; rfl
  ·rcases hb : (l.take c).any fun y => y.Name == l[c].Name with _ | _
   ·rw [hn.2 hb] at hf; cases hf
   ·rfl
 rw [← hany]
 rcases (List.range c).findSome? (HV l fun y => y.Name == l[c].Name) with _ | r
 rotate_left
 ·rfl
 simp only [Option.map_none, Option.getD_none, Option.isSome_none, Bool.false_eq_true, if_false]
 by_cases hp1 : l[c].Al < -1
 ·rw [Ab (by rw [Aa]; omega), Ab (Or.inl hp1)]
 rw [Ac (by rw [Aa]; omega)]
 by_cases hp2 : (c : Int) ≤ l[c].Al
 ·rw [Ab (by rw [Aa]; omega), Ab (Or.inr hp2)]
 rw [Ac (by rw [Aa]; omega), Ac (by omega), RG l h R (by omega) _ (by omega) (by omega), Yy]
 exact Qr l h l[c] _ (Mv l h R (by omega) _ (by omega) (by omega)) (h.2 _ (Y4 hc))
end Go.Proofs.YtpnacdckamiedaaGreat
namespace Go.Proofs.YtpnacdckamiedaaGreat
open Go Go.RowKit Go.Pv Go.Proofs.Tryz
structure Good (l : List Ad) : Prop where
 tab : Eh l
 few : l.length ≤ 32
 right : Cj l l.length
 fields : ∀ c, c < l.length → (BR l (c : Int)).length ≤ 32
 stored : ∀ (c : Nat) (h : c < l.length), ∀ f ∈ l[c].Fields, st l f.Fv = true
theorem PW {l : List Ad} {all own : List Av} (h : HI l all own = 0) : all.length + own.length ≤ 32 ∧ ∀ f ∈ own, st l f.Fv = true := by
 unfold HI at h
 rcases hf : (List.range own.length).findSome? (JX l all own) with _ | e
 ·rw [hf, Option.getD_none] at h
  constructor
  ·by_cases h32 : 32 < all.length + own.length
   ·rw [Ab h32] at h; cases h
   ·omega
  ·intro f hfm
   obtain ⟨i, hi, rfl⟩ := List.mem_iff_getElem.1 hfm
   have := (List.findSome?_eq_none_iff.1 hf) i (List.mem_range.2 hi)
   unfold JX at this
   rw [Yz hi] at this
   dsimp only at this
   split at this
   ·cases this
   ·split at this
    ·cases this
    ·split at this
     ·cases this
     ·rename_i hs; simpa using hs
 ·rw [hf, Option.getD_some] at h
  subst h
  obtain ⟨i, hi, hr⟩ := List.exists_of_findSome?_eq_some hf
  unfold JX at hr
  split at hr
  ·cases hr
  ·repeat' split at hr
   all_goals cases hr
theorem GX {l : List Ad} {c : Nat} (hc : c < l.length) (h : EO l c = 0) : c < 32 ∧ -1 ≤ l[c].Al ∧ l[c].Al < c ∧ (BR l l[c].Al).length + l[c].Fields.length ≤ 32 ∧ ∀ f ∈ l[c].Fields, st l f.Fv = true := by
 unfold EO at h
 rw [Yz hc] at h
 dsimp only at h
 split at h
 ·cases h
 ·split at h
  ·cases h
  ·split at h
   ·cases h
   ·split at h
    ·cases h
    ·split at h
     ·cases h
     ·have := PW h
      exact ⟨by omega, by omega, by omega, this.1, this.2⟩
theorem Qc {l : List Ad} {n : Nat} (R : Cj l n) (c : Nat) (h : c < l.length) (hn : c < n) : BR l (c : Int) = BR l l[c].Al ++ l[c].Fields := by
 unfold BR
 rw [ET R c h hn, List.reverse_cons, List.flatMap_append]
 simp [LG h]
theorem MA {l : List Ad} (n : Nat) (h : ∀ j, j < n → j < l.length → EO l j = 0) : Cj l n := fun i hi hn => ⟨(GX hi (h i hn hi)).2.1, (GX hi (h i hn hi)).2.2.1⟩
def HM (l : List Ad) (c : Nat) : Option (Int × Int) := if EO l c = 0 then none else some ((c : Int), EO l c)
def FY (l : List Ad) : Int × Int := ((List.range l.length).findSome? (HM l)).getD (0, 0)
theorem Lt {l : List Ad} {c : Nat} (h : HM l c = none) : EO l c = 0 := by
 unfold HM at h
 split at h
 ·assumption
 ·cases h
theorem Rx {l : List Ad} (h : Eh l) (hv : (FY l).2 = 0) : Good l := by
 have h0 : ∀ j, j < l.length → EO l j = 0 := by
  unfold FY at hv
  rcases hf : (List.range l.length).findSome? (HM l) with _ | e
  ·intro j hj
   exact Lt ((List.findSome?_eq_none_iff.1 hf) j (List.mem_range.2 hj))
  ·rw [hf, Option.getD_some] at hv
   obtain ⟨i, hi, hr⟩ := List.exists_of_findSome?_eq_some hf
   unfold HM at hr
   split at hr
   ·cases hr
   ·rename_i hne; cases hr; exact absurd hv hne
 have R : Cj l l.length := MA _ fun j hj _ => h0 j hj
 refine ⟨h, ?_, R, ?_, ?_⟩
 ·rcases hl : l.length with _ | k
  ·omega
  ·have := (GX (c := k) (by omega) (h0 k (by omega))).1; omega
 ·intro c hc
  rw [Qc R c hc hc, Y0]
  exact (GX hc (h0 c hc)).2.2.2.1
 ·intro c hc
  exact (GX hc (h0 c hc)).2.2.2.2
theorem TG (l : List Ad) (h : Eh l) : Ec l = some (FY l) := by
 have hb : l.length ≤ 1048576 := h.1
 have hl := Nx (R := (Int × Int) ⊕ Unit) l.length (body := Cc l) (fun c => (HM l c).map .inl) (r0 := .inr ()) (fun c hc hj => by
  unfold Cc
  have R : Cj l c := MA c fun j hj' _ => Lt (by have := hj j hj'; simpa using this)
  rw [Ab (by rw [Aa]; omega), Tg l h c hc R, Yy, Ef (by omega)]
  unfold HM
  by_cases h0 : EO l c = 0
  ·rw [Ac (by rw [B9]; exact fun hn => hn h0), Ab h0]; rfl
  ·rw [Ab (by rw [B9]; exact h0), Ac h0]; rfl) (fun _ => by
  unfold Cc
  rw [Ac (by rw [Aa]; omega)])
 unfold Ec
 rw [hl, Yy, Hu, M8]
 unfold FY
 rcases (List.range l.length).findSome? (HM l) with _ | e <;> rfl
theorem Si (l : List Ad) (h : Eh l) (c : Nat) (hc : c < l.length) (R : Cj l c) : Dx l (c : Int) = match (HM l c).map Sum.inl with | some r => some (.inr r) | none => some (.inl ((c + 1 : Nat) : Int)) := by
 have hb : l.length ≤ 1048576 := h.1
 have key : ∀ e : Int, e = EO l c → ((some e).bind fun o => if (o != 0) = true then some (.inr (.inl ((c : Int), o))) else some (.inl (wr ((c : Int) + 1)))) = (match (HM l c).map (Sum.inl : Int × Int → (Int × Int) ⊕ Unit) with | some r => some (Sum.inr r) | none => some (Sum.inl ((c + 1 : Nat) : Int)) : Option (Int ⊕ ((Int × Int) ⊕ Unit))) := by
  intro e he
  subst he
  rw [Yy, Ef (by omega)]
  unfold HM
  by_cases h0 : EO l c = 0
  ·rw [Ac (by rw [B9]; exact fun hn => hn h0), Ab h0]; rfl
  ·rw [Ab (by rw [B9]; exact h0), Ac h0]; rfl
 unfold Dx
 rw [Ab (by rw [Aa]; omega), AV hc, Yy]
 have hv : EO l c = if 32 ≤ c then 4 else if I2 l[c].Name = false then 6 else if (wordsL.any fun y => l[c].Name == y) = true then 6 else if ((l.take c).any fun y => y.Name == l[c].Name) = true then 20
  else if l[c].Al < -1 ∨ (c : Int) ≤ l[c].Al then 21 else HI l (BR l l[c].Al) l[c].Fields := by
  unfold EO
  rw [Yz hc]
 by_cases h32 : 32 ≤ c
 ·rw [Ab (by rw [Aa]; omega)]
  exact key 4 (by rw [hv, Ab h32])
 rw [Ac (by rw [Aa]; omega), Kp, Yy]
 rw [Ac h32] at hv
 rcases hn : I2 l[c].Name with _ | _
 ·rw [hn, Ab rfl] at hv
  exact key 6 hv.symm
 rw [hn, Ac (c := true = false) (by simp)] at hv
 rw [Ac (c := (!true) = true) (by simp), SK, Yy, Qe wordsL (by decide), Yy]
 rcases hw : (wordsL.any fun y => l[c].Name == y) with _ | _
 rotate_left
 ·rw [hw, Ab rfl] at hv
  exact key 6 hv.symm
 rw [hw, Ac (c := false = true) (by simp)] at hv
 rw [Ac (c := false = true) (by simp), Km (by omega), Yy, Y9, Int.toNat_zero, List.drop_zero, show (⟨l[c].Name, l[c].Al, l[c].Fields⟩ : Ad) = l[c] from rfl, SH l h c (by omega), Yy]
 rcases ht : ((l.take c).any fun y => y.Name == l[c].Name) with _ | _
 rotate_left
 ·rw [ht, Ab rfl] at hv
  exact key 20 hv.symm
 rw [ht, Ac (c := false = true) (by simp)] at hv
 rw [Ac (c := false = true) (by simp)]
 by_cases hp1 : l[c].Al < -1
 ·rw [Ab (by rw [Aa]; omega)]
  exact key 21 (by rw [hv, Ab (Or.inl hp1)])
 rw [Ac (by rw [Aa]; omega)]
 by_cases hp2 : (c : Int) ≤ l[c].Al
 ·rw [Ab (by rw [Aa]; omega)]
  exact key 21 (by rw [hv, Ab (Or.inr hp2)])
 rw [Ac (by rw [Aa]; omega), Qv l h R (by omega) c hc (by omega) (by omega), Yy]
 exact key _ (by rw [hv, Ac (by omega)])
theorem Oe (l : List Ad) (h : Eh l) : Gc l = some (FY l) := by
 have hb : l.length ≤ 1048576 := h.1
 have hl := Nx (R := (Int × Int) ⊕ Unit) l.length (body := Dx l) (fun c => (HM l c).map .inl) (r0 := .inr ()) (fun c hc hj => by
  rw [Si l h c hc (MA c fun j hj' _ => Lt (by have := hj j hj'; simpa using this))]
  rcases HM l c with _ | _ <;> rfl) (fun _ => by
  unfold Dx
  rw [Ac (by rw [Aa]; omega)])
 unfold Gc
 rw [hl, Yy, Hu, M8]
 unfold FY
 rcases (List.range l.length).findSome? (HM l) with _ | e <;> rfl
end Go.Proofs.YtpnacdckamiedaaGreat
namespace Go.Proofs.YtpnacdckamiedaaGreat
open Go Go.RowKit Go.Pv Go.Proofs.Tryz
theorem EP : (prog.info? 80).bind (·.zero) = some (.agg ⟨[.slice none 0 0, .slice none 0 0, .int .i64 0]⟩) := by kernel_rfl
theorem LX : HH prog 80 [(0, 1), (1, 1), (2, 1)] = true := by kernel_rfl
theorem Iy : (prog.info? 80).map (·.size) = some 3 := by kernel_rfl
theorem Ko : El prog 80 3 = true := by kernel_rfl
theorem BK : Dy prog 22 109 3 48 (Gb 3) = true := by kernel_rfl
theorem Gy : El prog 109 3 = true := by kernel_rfl
theorem GM : (prog.info? 109).bind (·.zero) = some (.agg ⟨[.string ⟨⟨[]⟩⟩, .int .i64 0, .slice none 0 0]⟩) := by kernel_rfl
theorem Iv : (prog.info? 109).map (·.size) = some 3 := by kernel_rfl
theorem HT : FD prog 109 2 2 1 = true := by kernel_rfl
theorem IB : Do prog 107 = true := by kernel_rfl
theorem Fe : Dy prog 107 112 2 24 (Gb 2) = true := by kernel_rfl
theorem KA : (prog.info? 107).map (·.size) = some 1 := by kernel_rfl
theorem N5 : (prog.info? 22).map (·.size) = some 1 := by kernel_rfl
theorem FM : Dy prog 23 69 5 80 (Gb 5) = true := by kernel_rfl
theorem It : El prog 69 5 = true := by kernel_rfl
theorem HE : (prog.info? 69).bind (·.zero) = some (.agg ⟨[.string ⟨⟨[]⟩⟩, .slice none 0 0, .int .u8 0, .int .i64 0, .slice none 0 0]⟩) := by kernel_rfl
theorem Ji : (prog.info? 69).map (·.size) = some 5 := by kernel_rfl
theorem Tl : FD prog 69 1 1 2 = true := by kernel_rfl
theorem Tp : FD prog 66 0 0 1 = true := by kernel_rfl
theorem Ue : Do prog 63 = true := by kernel_rfl
theorem HG : Dy prog 63 64 1 1 (Gb 1) = true := by kernel_rfl
theorem Jq : Do prog 64 = true := by kernel_rfl
theorem QA : HH prog 66 [(0, 1), (1, 1)] = true := by kernel_rfl
theorem IF : (prog.info? 66).bind (·.zero) = some (.agg ⟨[.slice none 0 0, .int .u8 0]⟩) := by kernel_rfl
theorem Hy : Dy prog 78 66 2 32 (Gb 2) = true := by kernel_rfl
theorem QZ : (prog.info? 78).map (·.size) = some 1 := by kernel_rfl
theorem DR : prog.follows .mixedOrders = true := by kernel_rfl
theorem R9 : FD prog 109 0 0 1 = true := by kernel_rfl
theorem Kg : Do prog 9 = true := by kernel_rfl
theorem Ix : Dy prog 171 9 1 16 (Gb 1) = true := by kernel_rfl
theorem Vd : Jv prog 94 = true := by kernel_rfl
theorem Ja : FD prog 109 1 1 1 = true := by kernel_rfl
theorem Gg : Do prog 3 = true := by kernel_rfl
theorem RJ : (prog.info? 171).bind (·.zero) = some (.slice none 0 0) := by kernel_rfl
theorem L1 : El prog 112 2 = true := by kernel_rfl
theorem K6 : (prog.info? 112).bind (·.zero) = some (.agg ⟨[.string ⟨⟨[]⟩⟩, .int .u8 0]⟩) := by kernel_rfl
theorem M1 : (prog.info? 112).map (·.size) = some 2 := by kernel_rfl
theorem N1 : FD prog 112 0 0 1 = true := by kernel_rfl
theorem OU : (prog.info? 171).map (·.size) = some 1 := by kernel_rfl
theorem UE : Jv prog 125 = true := by kernel_rfl
theorem Iq : El prog 66 2 = true := by kernel_rfl
theorem LK : (prog.info? 66).map (·.size) = some 2 := by kernel_rfl
theorem QT : Jv prog 60 = true := by kernel_rfl
theorem C3 : (prog.info? 147).bind (·.zero) = some (.agg ⟨(.int .i64 0 :: .int .i64 0 :: Cp (Vector.replicate 24 (0 : UInt8)))⟩) := by kernel_rfl
theorem FV : HH prog 147 [(0, 1), (1, 1), (2, 24)] = true := by kernel_rfl
theorem DV : (prog.info? 147).map (·.size) = some 26 := by kernel_rfl
theorem Ey : El prog 147 26 = true := by kernel_rfl
theorem U4 : UQ prog 145 64 24 1 = true := by kernel_rfl
theorem V2 : (prog.info? 64).map (·.size) = some 1 := by kernel_rfl
theorem EL : Dy prog 27 3 1 8 (Gb 1) = true := by kernel_rfl
theorem EV : (prog.info? 26).bind (·.zero) = some (.agg ⟨[.string ⟨⟨[]⟩⟩, .slice none 0 0, .slice none 0 0, .slice none 0 0]⟩) := by kernel_rfl
theorem NG : HH prog 26 [(0, 1), (1, 1), (2, 1), (3, 1)] = true := by kernel_rfl
theorem Mg : (prog.info? 26).map (·.size) = some 4 := by kernel_rfl
theorem Rj : (prog.info? 63).map (·.size) = some 1 := by kernel_rfl
theorem Uj : Do prog 67 = true := by kernel_rfl
theorem Gn : Dy prog 67 5 1 1 (Gb 1) = true := by kernel_rfl
theorem Mf : (prog.info? 67).map (·.size) = some 1 := by kernel_rfl
theorem QC : (prog.info? 23).map (·.size) = some 1 := by kernel_rfl
theorem Qa : El prog 26 4 = true := by kernel_rfl
theorem Ua : HH prog 152 [(0, 1), (1, 1), (2, 1), (3, 1), (4, 1)] = true := by kernel_rfl
theorem R7 : (prog.info? 152).bind (·.zero) = some (.agg ⟨[.slice none 0 0, .int .i64 0, .int .i64 0, .int .i64 0, .map none]⟩) := by kernel_rfl
theorem HJ : (prog.info? 130).bind (·.zero) = some (.agg ⟨[.int .i64 0, .int .u8 0, .int .i64 0, .int .i64 0]⟩) := by kernel_rfl
theorem Pd : HH prog 130 [(0, 1), (1, 1), (2, 1), (3, 1)] = true := by kernel_rfl
theorem Fl : (prog.info? 130).map (·.size) = some 4 := by kernel_rfl
theorem FN : El prog 130 4 = true := by kernel_rfl
theorem LO : Do prog 5 = true := by kernel_rfl
theorem TF : (prog.info? 67).bind (·.zero) = some (.slice none 0 0) := by kernel_rfl
theorem P3 : Jv prog 101 = true := by kernel_rfl
theorem SA : (prog.info? 3).map (·.size) = some 1 := by kernel_rfl
theorem T8 : (prog.info? 27).bind (·.zero) = some (.slice none 0 0) := by kernel_rfl
theorem Vg : (prog.info? 27).map (·.size) = some 1 := by kernel_rfl
theorem TQ : Jv prog 142 = true := by kernel_rfl
theorem LM : Dy prog 24 67 1 24 (Gb 1) = true := by kernel_rfl
theorem Vo : (prog.info? 24).map (·.size) = some 1 := by kernel_rfl
theorem M7 : Jv prog 130 = true := by kernel_rfl
end Go.Proofs.YtpnacdckamiedaaGreat
namespace Go.Proofs.YtpnacdckamiedaaGreat
open Go Go.RowKit Go.Pv Go.Proofs.Tryz
def tab : EJ := ⟨[(26, 0, 0, 1), (26, 1, 1, 1), (26, 2, 2, 1), (26, 3, 3, 1), (32, 0, 0, 1), (32, 1, 1, 1), (32, 2, 2, 1), (32, 3, 3, 1), (32, 4, 4, 1), (32, 5, 5, 1), (48, 0, 0, 1), (48, 1, 1, 1), (66, 0, 0, 1), (66, 1, 1, 1), (69, 1, 1, 2), (69, 2, 3, 1), (69, 3, 4, 1), (80, 0, 0, 1), (80, 1, 1, 1), (80, 2, 2, 1), (84, 0, 0, 1), (84, 2, 2, 1), (84, 3, 3, 1), (109, 0, 0, 1), (109, 1, 1, 1), (109, 2, 2, 1), (112, 0, 0, 1), (112, 1, 1, 1), (130, 1, 1, 1), (130, 2, 2, 1), (130, 3, 3, 1), (147, 2, 2, 24), (152, 0, 0, 1)], [11, 22, 23, 24, 27, 33, 36, 37, 45, 46, 55, 58, 59, 60, 61, 62, 63, 64, 65, 68, 79, 80, 81, 82, 83, 90, 91, 92, 93, 94, 95, 96, 97, 98, 99, 100, 101, 102, 118, 122, 123, 124, 125, 126, 127, 128, 129, 131, 141, 142], [3, 5, 9, 22, 23, 24, 27, 30, 46, 63, 64, 67, 78, 82, 107, 171], [(26, 4), (66, 2), (69, 5), (80, 3), (109, 3), (112, 2), (130, 4), (147, 26)]⟩
instance : BO prog := ⟨tab, by kernel_rfl⟩
end Go.Proofs.YtpnacdckamiedaaGreat
namespace Go.Proofs.YtpnacdckamiedaaGreat
end Go.Proofs.YtpnacdckamiedaaGreat
namespace Go.Pv
open Go Go.RowKit
structure Cq where
 v : Value
 one : v.oneCell' = true
def Ty.UG : Ty Cq := Ty.scalar (fun x => x.v) fun x => x.one
end Go.Pv
namespace Go.Pv
open Go Go.RowKit
def Mt (T : EJ) (n : Nat) : Md → List Kf → CL → Option (Md × List Kf × CL)
 | .co (.seq x y), K, m => some (.co x, .seq y :: K, m)
 | .co (.region _ ops false), K, m => some (.li ops ops.toList, K, m)
 | .co .skip, K, m => some (.ex .normal, K, m)
 | .co (.block id c), K, m => some (.co c, .blk id :: K, m)
 | .co (.exit id), K, m => some (.ex (.exit id), K, m)
 | .co .ret, K, m => some (.ex .ret, K, m)
 | .li _ [], K, m => some (.ex .normal, K, m)
 | .li ops (o :: l), K, m => match KZ T ops n m o with
  | some m' => some (.li ops l, K, m')
  | none => none
 | .ex .normal, .seq y :: K, m => some (.co y, K, m)
 | .ex .normal, .blk _ :: K, m => some (.ex .normal, K, m)
 | .ex (.exit j), .seq _ :: K, m => some (.ex (.exit j), K, m)
 | .ex (.exit j), .thn _ :: K, m => some (.ex (.exit j), K, m)
 | .ex (.exit j), .blk k :: K, m => bif Nat.beq k j then some (.ex .normal, K, m) else some (.ex (.exit j), K, m)
 | .ex .ret, .seq _ :: K, m => some (.ex .ret, K, m)
 | .ex .ret, .blk _ :: K, m => some (.ex .ret, K, m)
 | .ex .ret, .thn _ :: K, m => some (.ex .ret, K, m)
 | _, _, _ => none
def TX (P : Program) (Q0 : Exit → Act → World → Prop) : Md → List Kf → Act → World → Prop
 | .co c, K => c.wp P (Bg P Q0 K)
 | .li ops l, K => wpList P ops (Bg P Q0 K) l
 | .ex .normal, .thn J :: _ => J
 | .ex .normal, .kq J :: _ => J
 | .ex e, [] => Q0 e
 | .ex e, k :: K => Bg P Q0 (k :: K) e
def FR (P : Program) (Q0 : Exit → Act → World → Prop) (T : EJ) (n : Nat) : Nat → Md → List Kf → CL → Option (CL × (Act → World → Prop))
 | 0, d, K, m => some (m, TX P Q0 d K)
 | i + 1, d, K, m => match Mt T n d K m with
  | some (d', K', m') => FR P Q0 T n i d' K' m'
  | none => some (m, TX P Q0 d K)
section
variable {P : Program} {w w' : World} {m m' : CL} {ops : Array Oper} {Q Q0 : Exit → Act → World → Prop} {a : Act} {n : Nat} {l l' : List Oper} {v : Value} {K K' : List Kf} {X X' : Act → World → Prop} {d d' : Md}
theorem WW {T : EJ} (hT : T.okB P = true) (hF : Fr a n m) (h : Mt T n d K m = some (d', K', m')) (k : ∀ a, Fr a n m' → gl P Q0 K' d' a w) : gl P Q0 K d a w := by
 cases d with
 | co c =>
  cases c with
  | seq x y => cases h; exact wp_seq (k _ hF)
  | region id ops b =>
   cases b with
   | false => cases h; exact Np (l := ops.toList) (k _ hF)
   | true => cases h
  | skip => cases h; exact wp_skip (k _ hF)
  | block id c => cases h; exact wp_block (k _ hF)
  | exit id => cases h; exact wp_exit (k _ hF)
  | ret => cases h; exact wp_ret (k _ hF)
  | _ => simp only [Mt] at h; cases h
 | li ops l =>
  cases l with
  | nil => cases h; exact Pq (P := P) (ops := ops) (k _ hF)
  | cons o l =>
   simp only [Mt] at h
   split at h
   ·rename_i m1 h1; cases h; exact PK hT hF h1 k
   ·cases h
 | ex e =>
  cases K with
  | nil => cases e <;> (simp only [Mt] at h; cases h)
  | cons y K =>
   cases y with
   | seq y => cases e <;> first | (simp only [Mt] at h; cases h; done) | (cases h; exact k _ hF)
   | thn J => cases e <;> first | (simp only [Mt] at h; cases h; done) | (cases h; exact k _ hF)
   | blk id =>
    cases e with
    | exit j =>
     simp only [Mt] at h
     rcases hb : Nat.beq id j with _ | _
     ·rw [hb] at h
      cases h
      exact Pn (by
       rcases hb2 : Nat.beq j id with _ | _
       ·rfl
       ·rw [Nat.eq_of_beq_eq_true hb2, Nat.beq_refl] at hb; cases hb) (k _ hF)
     ·rw [hb] at h
      cases h
      obtain rfl := Nat.eq_of_beq_eq_true hb
      exact QP (k _ hF)
    | normal => cases h; exact k _ hF
    | ret => cases h; exact k _ hF
    | _ => simp only [Mt] at h; cases h
   | _ => cases e <;> (simp only [Mt] at h; cases h)
theorem QM (h : TX P Q0 d K a w) : gl P Q0 K d a w := by
 cases d with
 | co c => exact h
 | li ops l => exact h
 | ex e =>
  cases K with
  | nil => cases e <;> exact h
  | cons y K => cases y <;> cases e <;> exact h
theorem HF [h0 : BO P] : ∀ (i : Nat) {d : Md} {K : List Kf} {m : CL} {a : Act}, Fr a n m → FR P Q0 h0.T n i d K m = some (m', X) → (∀ a, Fr a n m' → X a w) → gl P Q0 K d a w
 | 0, d, K, m, a, hF, h, k => by cases h; exact QM (k a hF)
 | i + 1, d, K, m, a, hF, h, k => by
  simp only [FR] at h
  split at h
  ·rename_i d' K' m1 h1
   exact WW h0.ok hF h1 fun a hF => HF i hF h k
  ·cases h; exact QM (k a hF)
section
variable [h0 : BO P]
theorem zc {c : Code} (hF : Fr a n m) (k : ∀ a, Fr a n m' → X a w) (h : FR P Q0 h0.T n 900 (.co c) K m = some (m', X) := by rfl) : c.wp P (Bg P Q0 K) a w := HF 900 hF h k
theorem zw (hF : Fr a n m) (k : ∀ a, Fr a n m' → X a w) (h : FR P Q0 h0.T n 900 (.li ops l) K m = some (m', X) := by rfl) : wpList P ops (Bg P Q0 K) l a w := HF (d := .li ops l) 900 hF h k
theorem ze {e : Exit} (hF : Fr a n m) (k : ∀ a, Fr a n m' → X a w) (h : FR P Q0 h0.T n 900 (.ex e) K m = some (m', X) := by rfl) : Bg P Q0 K e a w := HF (d := .ex e) 900 hF h k
theorem zx {o : Oper} {d : Nat} (hF : Fr a n m) (he : EX P w m o v w) (k : ∀ a, Fr a n m' → X a w) (hd : FP o n = some d := by rfl) (h : FR P Q0 h0.T n 900 (.li ops l) K ((d, v) :: m) = some (m', X) := by rfl) : wpList P ops (Bg P Q0 K) (o :: l) a w :=
 have ⟨h1, h2, h3⟩ := Gh hd
 EQ hF he h1 h2 h3 fun a hF => zw hF k h
theorem AE {o : Oper} {g t : Nat} {cs : List Value} {w0 : World} {F0 : List Nat} {ps : List Ck} (hF : Fr a n m) (hs : SL w0 F0 w ps) (hm : Ae g t cs ∈ ps) (k : ∀ a, Fr a n m' → X a w) (h : ((MZ h0.T m cs n o).bind fun r => (FR P Q0 h0.T n 900 (.li ops l) K ((r.2.1, r.2.2) :: m)).map fun x => (r.1, x)) = some (g, m', X) := by rfl) : wpList P ops (Bg P Q0 K) (o :: l) a w := by
 obtain ⟨⟨g', d, v⟩, h1, h2⟩ := Option.bind_eq_some_iff.1 h
 obtain ⟨x, h3, h4⟩ := Option.map_eq_some_iff.1 h2
 cases h4
 obtain ⟨he, hd⟩ := Ls h0.ok hs hm h1
 exact zx hF he k hd h3
theorem zt {t : Nat} {b : Bool} {x y : Code} (hF : Fr a n m) (hb : b = true) (k : ∀ a, Fr a n m' → X a w) (hc : look m t = some (.bool b) := by rfl) (h1 : FR P Q0 h0.T n 900 (.co x) K m = some (m', X) := by rfl) : (Code.cond (.tmp t) x y).wp P (Bg P Q0 K) a w :=
 Q7 hF (hb ▸ hc) (zc hF k h1)
theorem zf {t : Nat} {b : Bool} {x y : Code} (hF : Fr a n m) (hb : b = false) (k : ∀ a, Fr a n m' → X a w) (hc : look m t = some (.bool b) := by rfl) (h1 : FR P Q0 h0.T n 900 (.co y) K m = some (m', X) := by rfl) : (Code.cond (.tmp t) x y).wp P (Bg P Q0 K) a w :=
 NI hF (hb ▸ hc) (zc hF k h1)
theorem Sc (i : Nat) {o : Oper} {g t : Nat} {cs : List Value} {w0 : World} {F0 : List Nat} {ps : List Ck} (hF : Fr a n m) (hs : SL w0 F0 w ps) (hm : Ae g t cs ∈ ps) (k : ∀ a, Fr a n m' → X a w) (h : ((MZ h0.T m cs n o).bind fun r => (FR P Q0 h0.T n i (.li ops l) K ((r.2.1, r.2.2) :: m)).map fun x => (r.1, x)) = some (g, m', X) := by rfl) : wpList P ops (Bg P Q0 K) (o :: l) a w := by
 obtain ⟨⟨g', d, v⟩, h1, h2⟩ := Option.bind_eq_some_iff.1 h
 obtain ⟨x, h3, h4⟩ := Option.map_eq_some_iff.1 h2
 cases h4
 obtain ⟨he, hd⟩ := Ls h0.ok hs hm h1
 have ⟨e1, e2, e3⟩ := Gh hd
 exact EQ hF he e1 e2 e3 fun a hF => HF (d := .li ops l) i hF h3 k
theorem IQ (i : Nat) (hF : Fr a n m) (k : ∀ a, Fr a n m' → X a w) (h : FR P Q0 h0.T n i (.li ops l) K m = some (m', X) := by rfl) : wpList P ops (Bg P Q0 K) l a w := HF (d := .li ops l) i hF h k
theorem SE (i : Nat) {c : Code} (hF : Fr a n m) (k : ∀ a, Fr a n m' → X a w) (h : FR P Q0 h0.T n i (.co c) K m = some (m', X) := by rfl) : c.wp P (Bg P Q0 K) a w := HF i hF h k
theorem Wq (i : Nat) {t : Nat} {b : Bool} {x y : Code} (hF : Fr a n m) (hb : b = false) (k : ∀ a, Fr a n m' → X a w) (hc : look m t = some (.bool b) := by rfl) (h1 : FR P Q0 h0.T n i (.co y) K m = some (m', X) := by rfl) : (Code.cond (.tmp t) x y).wp P (Bg P Q0 K) a w :=
 NI hF (hb ▸ hc) (SE i hF k h1)
theorem C9 {f : FuncId} {fn : Func} {c : Code} {args : List Value} {R : Ending → World → Prop} (hf : P.funcs[f]? = some fn) (hn : fn.ntmps = n) (k : ∀ a, Fr a n m' → X a w) (hb : fn.body = some c := by rfl) (hl : Nat.ble args.length n = true := by rfl)
  (h : FR P (bodyPost P fn R) h0.T n 900 (.co c) [] (JK 0 args) = some (m', X) := by rfl) : Calls P f args.toArray w R :=
 Nr hf hb hn (Nat.le_of_ble_eq_true hl) fun a hF => zc hF k h
end
abbrev L9 (v : Value) : List PanicEntry := [{ v, recovered := false }]
inductive Rz (α : Type) where
 | ok (a : α)
 | no (v : Value)
def WQ {α : Type} (r : Rz α) (S : α → Value → World → Prop) (E : World → Prop) : Ending → World → Prop
 | .returned v, w => ∃ x, r = .ok x ∧ S x v w
 | .panicked ch, w => ∃ v, r = .no v ∧ ch = L9 v ∧ E w
 | _, _ => False
def So (Q : Exit → Act → World → Prop) : Prop := ∀ c a d v w, Q (.panic c) (Act.put a d v) w → Q (.panic c) a w
def NE : List Kf → Bool
 | [] => true
 | .kq _ :: _ => false
 | _ :: K => NE K
theorem Br {fn : Func} {R : Ending → World → Prop} {ch : List PanicEntry} : ∀ {K : List Kf}, NE K = true → Fr a n m → R (.panicked ch) w → Bg P (bodyPost P fn R) K (.panic ch) a w
 | [], _, hF, h => ⟨hF.defers, h⟩
 | .seq _ :: K, hk, hF, h => Br (K := K) hk hF h
 | .thn _ :: K, hk, hF, h => Br (K := K) hk hF h
 | .blk _ :: K, hk, hF, h => Br (K := K) hk hF h
 | .jmp _ _ :: K, hk, hF, h => Br (K := K) hk hF h
 | .nog :: K, hk, hF, h => Br (K := K) hk hF h
 | .rnd _ _ :: K, hk, hF, h => Br (K := K) hk hF h
theorem Bl {fn : Func} {R : Ending → World → Prop} : ∀ {K : List Kf}, NE K = true → So (Bg P (bodyPost P fn R) K)
 | [], _ => fun c a d v w h => ⟨(show (a.put d v).defers = [] from h.1) ▸ (by cases d <;> rfl), h.2⟩
 | .seq _ :: K, hk => Bl (K := K) hk
 | .thn _ :: K, hk => Bl (K := K) hk
 | .blk _ :: K, hk => Bl (K := K) hk
 | .jmp _ _ :: K, hk => Bl (K := K) hk
 | .nog :: K, hk => Bl (K := K) hk
 | .rnd _ _ :: K, hk => Bl (K := K) hk
def Tn (v : Value) (E : World → Prop) : Ending → World → Prop := fun e w => e = .panicked (L9 v) ∧ E w
section
variable {dd : Option Tmp} {d : Nat} {ty : TypeId} {pos : String} {aft : Array Edge} {f : Nat} {args : List Operand} {ats : Array TypeId} {vs : List Value} {E : World → Prop} {u : Value} {x : Operand} {S : Value → World → Prop} {g : Option (Nat × Bool)}
theorem QH {K : Act → World → Prop} (hF : Fr a n m) (hf : Jv P f = true) (hargs : Fp m args = some vs) (hc : Calls P f vs.toArray w (Tn u E)) (k : ∀ w', E w' → Q (.panic (L9 u)) a w') : Oper.wp P (⟨dd, .call { callee := .value (.func f), args := args.toArray, argTypes := ats }, ty, pos, aft, g⟩ : Oper) a w K Q := by
 unfold Oper.wp
 have h1 : (execOp a.eval ⟨dd, .call { callee := .value (.func f), args := args.toArray, argTypes := ats }, ty, pos, aft, g⟩).run P w = .ok (.enter f vs.toArray) w := by
  have h2 := hF.Ik hargs
  simp [execOp, resolve, Deferred.ofValue, Act.eval, invoke, h2, Eb hf]
 rw [h1, Oper.upon_enter]
 refine hc.mono ?_
 rintro e w' ⟨rfl, hS⟩
 exact k _ hS
theorem Hn [h0 : BO P] (hF : Fr a n m) (hc : Calls P f vs.toArray w (Tn u E)) (k : ∀ w', E w' → Q (.panic (L9 u)) a w') (hargs : Fp m args = some vs := by rfl) (hf : Et h0.T.fn f = true := by rfl) : wpList P ops Q (⟨dd, .call { callee := .value (.func f), args := args.toArray, argTypes := ats }, ty, pos, aft, none⟩ :: l) a w :=
 wpList_plain rfl fun K hK => QH hF (PO hf) hargs hc k
theorem Jz (hF : Fr a n m) {ti : TypeId} {uv : Value} (hx : ev m x = some (.iface ti uv)) (k : Q (.panic (L9 (.iface ti uv))) a w) : wpList P ops Q (⟨dd, .panic x, ty, pos, aft, none⟩ :: l) a w :=
 wpList_plain rfl fun K hK => by
  unfold Oper.wp
  have h1 : (execOp a.eval ⟨dd, .panic x, ty, pos, aft, none⟩).run P w = .halt (.panic (.iface ti uv)) w := by
   simp only [execOp, hF.eval hx]
   rfl
  rw [h1, Oper.upon_panic]
  exact k
theorem S8 {name : String} {rv : Value} {vs' : List Value} (hF : Fr a n m) (hx : ev m x = some rv) (hargs : Fp m args = some vs') (hi : (callMethod rv name vs'.toArray).run P w = .ok (.enter f vs.toArray) w) (hc : Calls P f vs.toArray w (AN S))
  (k : ∀ v w a, S v w → Fr a n ((d, v) :: m) → wpList P ops Q l a w) (hlt : Nat.blt d n = true := by rfl) : wpList P ops Q (⟨some d, .call { callee := .invoke x name, args := args.toArray, argTypes := ats }, ty, pos, aft, none⟩ :: l) a w :=
 wpList_plain rfl fun K hK => by
  unfold Oper.wp
  have h1 : (execOp a.eval ⟨some d, .call { callee := .invoke x name, args := args.toArray, argTypes := ats }, ty, pos, aft, none⟩).run P w = .ok (.enter f vs.toArray) w := by
   have h2 := hF.Ik hargs
   simp [execOp, resolve, invoke, hF.eval hx, h2, hi]
  rw [h1, Oper.upon_enter]
  refine hc.mono ?_
  rintro e w' ⟨v, rfl, hS⟩
  exact hK _ _ (k v w' _ hS (hF.put d v hlt))
theorem I5 {t : TypeId} {e : TypeDesc} {v : Value} (hx : ev m x = some v) (hu : P.underlying t = some e) (he : ∀ ms, e ≠ .interface ms) : EX P w m ⟨dd, .makeInterface t x, ty, pos, aft, g⟩ (.iface t v) w := fun a n hF => by
 have h := hF.eval hx
 cases e <;> first | (exact absurd rfl (he _)) | simp [execOp, h, Instr.makeInterface, run_underlying hu]
def T9 (P : Program) (ops : Array Oper) (Q : Exit → Act → World → Prop) (S : World → Prop) (fin : List Nat) : Nat → Array Bool → Act → World → Prop
 | 0, listed, a, w => Region.ready .any ops listed = [] ∧ Q .normal a w
 | fuel + 1, listed, a, w => (Region.ready .any ops listed = [] → Q .normal a w) ∧ ∀ i ∈ Region.ready .any ops listed, wpOp P ops Q i (fun a' w' => (Et fin i = false → S w') ∧ T9 P ops Q S fin fuel (listed.setIfInBounds i true) a' w') a w
def UK (ops : Array Oper) (fin : List Nat) (i : Nat) : Bool := fin.all fun j => match ops[j]? with
 | some o => o.after.any fun e => Region.binds .any e && e.on == i
 | none => true
section
variable {S : World → Prop} {fin D is : List Nat}
theorem Ng : ∀ (fuel : Nat) (listed : Array Bool) (a : Act) (w : World), T9 P ops Q S fin fuel listed a w → wpAny P .any ops Q fuel listed a w
 | 0, _, _, _, h => h
 | fuel + 1, _, _, _, h => ⟨h.1, fun i hi => wpOp_mono (fun a' w' h' => Ng fuel _ a' w' h'.2) (h.2 i hi)⟩
theorem Rs : ∀ {l : List Nat} {i : Nat}, Et l i = true → i ∈ l
 | [], _, h => by cases h
 | x :: r, i, h => by
  unfold Et at h
  rcases hb : Nat.beq x i with _ | _
  ·rw [hb] at h; exact .tail _ (Rs h)
  ·rw [Nat.eq_of_beq_eq_true hb]; exact .head _
theorem Te {i : Nat} {oi : Oper} (hi : ops[i]? = some oi) (hsel : ∀ (j : Nat) (o : Oper) cs b, ops[j]? = some o → o.op ≠ .select cs b)
  (hQ : ∀ c a w, Q (.panic c) (a.put oi.dst v) w → Q (.panic c) a w) (hfin : UK ops fin i = true) :
  ∀ (fuel : Nat) (listed : Array Bool) (a : Act) (w : World),
   (∀ j oj, ops[j]? = some oj → j ≠ i → listed.getD j true = false → (∀ e ∈ oj.after, Region.binds .any e = true → e.on ≠ i) → oi.apart ops oj = true) →
   i ∈ Region.ready .any ops listed → YieldsIf P ops S oi v a → S w →
   T9 P ops Q S fin fuel (listed.setIfInBounds i true) (a.put oi.dst v) w → T9 P ops Q S fin (fuel + 1) listed a w := by
 intro fuel
 induction fuel with
 | zero =>
  intro listed a w _ hr hy hS H
  refine ⟨fun h => (by rw [h] at hr; cases hr), fun j hj => ?_⟩
  by_cases hji : j = i
  ·subst hji; exact hy.wpOp hi hS ⟨fun _ => hS, H⟩
  ·have := ready_mono hj hji
   rw [H.1] at this
   cases this
 | succ fuel ih =>
  intro listed a w hfree hr hy hS H
  refine ⟨fun h => (by rw [h] at hr; cases hr), fun j hj => ?_⟩
  by_cases hji : j = i
  ·subst hji; exact hy.wpOp hi hS ⟨fun _ => hS, H⟩
  ·have h1 := H.2 j (ready_mono hj hji)
   obtain ⟨hjun, oj, hoj, hall⟩ := mem_ready.1 hj
   have hnot : ∀ e ∈ oj.after, Region.binds .any e = true → e.on ≠ i := fun e he hb heq => by
    have h1 := hall e he hb
    have h0 := (mem_ready.1 hr).1
    rw [heq] at h1
    rcases Nat.lt_or_ge i listed.size with h' | h'
    ·simp [h'] at h0 h1; rw [h0] at h1; cases h1
    ·simp [Array.getElem?_eq_none h'] at h1
   have hjf : Et fin j = false := by
    rcases hb : Et fin j with _ | _
    ·rfl
    ·unfold UK at hfin
     rw [List.all_eq_true] at hfin
     have h5 := hfin j (Rs hb)
     rw [hoj] at h5
     simp only [Array.any_eq_true'] at h5
     obtain ⟨e, he, hb2⟩ := h5
     simp only [YB, Ap] at hb2
     exact absurd hb2.2 (hnot e he hb2.1)
   have h2 := wpOp_putIf hoj (hfree j oj hoj hji hjun hnot) (fun cs b => hsel i oi cs b hi) (fun cs b => hsel j oj cs b hoj) hQ hy h1
   have hfree' : ∀ k ok, ops[k]? = some ok → k ≠ i → (listed.setIfInBounds j true).getD k true = false →
     (∀ e ∈ ok.after, Region.binds .any e = true → e.on ≠ i) → oi.apart ops ok = true := fun k ok hk hki hun hno => by
    refine hfree k ok hk hki ?_ hno
    by_cases hjk : j = k
    ·subst hjk; exact hjun
    ·rw [getD_set_ne true hjk] at hun; exact hun
   refine wpOp_mono (fun a' w' h3 => ⟨fun _ => h3.2.1 hjf, ih (listed.setIfInBounds j true) a' w' hfree' (ready_mono hr (Ne.symm hji)) h3.1 (h3.2.1 hjf) ?_⟩) h2
   rw [Array.setIfInBounds_comm _ _ hji]
   exact h3.2.2
def HP (P : Program) (ops : Array Oper) (Q : Exit → Act → World → Prop) (S : World → Prop) (fin : List Nat) (D : List Nat) (a : Act) (w : World) : Prop :=
 T9 P ops Q S fin (ops.size - D.length) (mark ops.size D) a w
def Pf (ops : Array Oper) (fin : List Nat) : List Nat → List Nat → Bool
 | _, [] => true
 | D, i :: is => Nat.blt D.length ops.size && (Region.free .any ops (mark ops.size D) i && ((OM ops D).contains i && (UK ops fin i && Pf ops fin (i :: D) is)))
theorem LV {i : Nat} {oi : Oper} (hi : ops[i]? = some oi) (hs : Region.noSelect ops = true) (hp : So Q) (hS : S w) (h1 : Nat.blt D.length ops.size = true) (h2 : Region.free .any ops (mark ops.size D) i = true) (h3 : (OM ops D).contains i = true) (h4 : UK ops fin i = true)
  (hy : YieldsIf P ops S oi v a) (h : HP P ops Q S fin (i :: D) (a.put oi.dst v) w) : HP P ops Q S fin D a w := by
 rw [Nat.blt_eq] at h1
 unfold HP
 rw [show ops.size - D.length = (ops.size - (D.length + 1)) + 1 by omega]
 exact Te hi (Region.noSelect_spec hs) (fun c a w h => hp c a _ _ w h) h4 _ _ a w (Region.free_spec hi h2) (by simpa [OM] using h3) hy hS h
theorem XM (hs : Region.noSelect ops = true) (hp : So Q) (hS : S w) : ∀ {is D : List Nat} {m : CL} {a : Act}, QI P ops n S m is m' → Pf ops fin D is = true → Fr a n m → (∀ a, Fr a n m' → HP P ops Q S fin (is.reverseAux D) a w) → HP P ops Q S fin D a w := by
 intro is D m a h
 induction h generalizing D a with
 | nil => intro _ hF k; exact k a hF
 | @op m m' is i d oi v hi he hd _ ih =>
  intro hk hF k
  simp only [Pf, YB] at hk
  obtain ⟨h1, h2, h3, h4, h5⟩ := hk
  obtain ⟨hg, hd, hlt⟩ := Gh hd
  exact LV hi hs hp hS h1 h2 h3 h4 (.inl ⟨by simp [Region.wanted, hg], fun w hw => he w hw _ n hF⟩) (by rw [hd]; exact ih h5 (hF.put d v hlt) k)
 | gop hi he hg hj hb hd hlt _ ih =>
  intro hk hF k
  simp only [Pf, YB] at hk
  obtain ⟨h1, h2, h3, h4, h5⟩ := hk
  exact LV hi hs hp hS h1 h2 h3 h4 (.inl ⟨by simp [Region.wanted, hg, D7 hF hj hb], fun w hw => he w hw _ n hF⟩) (by rw [hd]; exact ih h5 (hF.put _ _ hlt) k)
 | skip hi hg hj hb hne hd hlt _ ih =>
  intro hk hF k
  simp only [Pf, YB] at hk
  obtain ⟨h1, h2, h3, h4, h5⟩ := hk
  exact LV (v := undef) hi hs hp hS h1 h2 h3 h4 (.inr ⟨by simp [Region.wanted, hg, D7 hF hj hb]; exact hne, rfl⟩) (by rw [hd]; exact ih h5 (hF.put _ _ hlt) k)
 | @skip' _ _ _ _ _ j _ _ _ hi hg hj hb hd hlt _ ih =>
  intro hk hF k
  simp only [Pf, YB] at hk
  obtain ⟨h1, h2, h3, h4, h5⟩ := hk
  exact LV (v := undef) hi hs hp hS h1 h2 h3 h4 (.inr ⟨by
   have : yielded ops a.tmps j = none := by
    unfold yielded
    rw [hj]
    simp only [Yy]
    rw [hF.at_ _ _ hb]
    rfl
   simp [Region.wanted, hg, this], rfl⟩) (by rw [hd]; exact ih h5 (hF.put _ _ hlt) k)
 | kn hl ht _ ih => exact fun hk hF k => ih hk (hF.sub' ht hl) k
theorem Ce (is : List Nat) (hF : Fr a n m) (hp : So Q) (hS : S w) (h : QI P ops n S m is m') (k : ∀ a, Fr a n m' → HP P ops Q S fin (is.reverseAux D) a w) (hk : (Region.noSelect ops && Pf ops fin D is) = true := by kernel_rfl) : HP P ops Q S fin D a w := by
 rw [YB] at hk
 exact XM hk.1 hp hS h hk.2 hF k
abbrev KP (P : Program) (ops : Array Oper) (Q : Exit → Act → World → Prop) (S : World → Prop) (fin : List Nat) (i : Nat) (D : List Nat) : Act → World → Prop := fun a' w' => (Et fin i = false → S w') ∧ HP P ops Q S fin (i :: D) a' w'
theorem WA {i : Nat} (hr : Jt ops D [i] = true) (h : wpOp P ops Q i (KP P ops Q S fin i D) a w) : HP P ops Q S fin D a w := by
 unfold Jt at hr
 rw [YB, Ap] at hr
 have h1 := hr.1
 rw [Nat.blt_eq] at h1
 unfold HP
 rw [show ops.size - D.length = (ops.size - (D.length + 1)) + 1 by omega]
 have h2 : Region.ready .any ops (mark ops.size D) = [i] := hr.2
 refine ⟨fun h0 => (by rw [h2] at h0; cases h0), fun j hj => ?_⟩
 rw [h2, List.mem_singleton] at hj
 subst hj
 exact h
theorem BN (i : Nat) {o : Oper} (hi : ops[i]? = some o) (h : wpList P ops (Bg P Q [.kq (KP P ops Q S fin i D)]) [o] a w) (hr : Jt ops D [i] = true := by kernel_rfl) : HP P ops Q S fin D a w :=
 WA hr (Ge hi h)
theorem Fw [h0 : BO P] (i : Nat) {o : Oper} (hi : ops[i]? = some o) (hF : Fr a n m) (hS : S w) (k : ∀ a, Fr a n m' → HP P ops Q S fin (i :: D) a w) (he : KZ h0.T ops n m o = some m' := by rfl) (hr : Jt ops D [i] = true := by kernel_rfl) : HP P ops Q S fin D a w :=
 BN i hi (PK h0.ok hF he fun a hF => A8 ⟨fun _ => hS, k a hF⟩) hr
theorem QW (i : Nat) {o : Oper} {d : Nat} (hi : ops[i]? = some o) (hF : Fr a n m) (hS : S w) (he : EX P w m o v w) (k : ∀ a, Fr a n ((d, v) :: m) → HP P ops Q S fin (i :: D) a w) (hd : FP o n = some d := by rfl) (hr : Jt ops D [i] = true := by kernel_rfl) : HP P ops Q S fin D a w :=
 have ⟨h1, h2, h3⟩ := Gh hd
 BN i hi (EQ hF he h1 h2 h3 fun a hF => A8 ⟨fun _ => hS, k a hF⟩) hr
theorem Yf [h0 : BO P] (i : Nat) (hF : Fr a n m) (hc : Calls P f vs.toArray w (Tn u E)) (k : ∀ w', E w' → Q (.panic (L9 u)) a w') (hi : ops[i]? = some ⟨dd, .call { callee := .value (.func f), args := args.toArray, argTypes := ats }, ty, pos, aft, none⟩ := by rfl) (hr : Jt ops D [i] = true := by kernel_rfl) (hargs : Fp m args = some vs := by rfl) (hf : Et h0.T.fn f = true := by rfl) : HP P ops Q S fin D a w :=
 WA hr (by
  unfold wpOp
  rw [hi]
  show if _ then _ else _
  rw [Ab (by simp [Region.wanted])]
  exact .inl (QH hF (PO hf) hargs hc k))
theorem BE (h : Q .normal a w) (hr : (OM ops D == []) = true := by kernel_rfl) : HP P ops Q S fin D a w := by
 rw [Ap] at hr
 have hr : Region.ready .any ops (mark ops.size D) = [] := hr
 unfold HP
 cases ops.size - D.length with
 | zero => exact ⟨hr, h⟩
 | succ k => exact ⟨fun _ => h, fun i hi => by rw [hr] at hi; cases hi⟩
theorem BH {id : Nat} {l : List Oper} (S : World → Prop) (fin : List Nat) (hm : P.follows .mixedOrders = true) (h : HP P l.toArray Q S fin [] a w.drew) : (Code.region id l.toArray true).wp P Q a w :=
 wp_region_any hm (Ng (S := S) (fin := fin) _ _ _ _ (by
  unfold HP at h
  simpa [mark] using h))
end
end
end
end Go.Pv
namespace Go.Proofs.YtpnacdckamiedaaGreat
open Go Go.RowKit Go.Pv Go.Proofs.Tryz
structure MV where
 kind : Int
 n : Int
structure MC where
 fn : Int
 at_ : Int
 vars : List MV
 stack : List MV
structure MO where
 cls : Int
 nums : List Int
structure MS where
 m : Ah
 room : Int
 used : Int
 A4 : List MO
 calls : List MC
 told : List Int
 steps : Int
 over : Bool
 h1 : Int
 h2 : Int
 h3 : Int
inductive Re (α : Type) where
 | ok (a : α)
 | no (e t r : Int)
abbrev Mm (α : Type) := MS → Option (Re α × MS)
def Mb {α β : Type} (m : Option (Re α × MS)) (f : α → MS → Option (Re β × MS)) : Option (Re β × MS) := match m with
 | none => none
 | some (.no e t q, s) => some (.no e t q, s)
 | some (.ok a, s) => f a s
theorem AQ {α β : Type} {m : Option (Re α × MS)} {f : α → MS → Option (Re β × MS)} {p : Re β × MS} (H : Mb m f = some p) : (∃ e t r s, m = some (.no e t r, s) ∧ p = (.no e t r, s)) ∨ (∃ a s, m = some (.ok a, s) ∧ f a s = some p) := by
 unfold Mb at H
 split at H
 ·cases H
 ·cases H; exact .inl ⟨_, _, _, _, rfl, rfl⟩
 ·exact .inr ⟨_, _, rfl, H⟩
def Bc (ok : Bool) : Mm Unit := fun s => if ok = true then some (.ok (), s) else some (.no 153 0 0, s)
def GL {α : Type} (n : Int) : Mm α := fun s => some (.no 152 n 0, s)
def Ia : Mm Unit := fun s => match s.calls with
 | [] => none
 | c :: _ => Bc (decide (wr ((c.vars.length : Int) + (c.stack.length : Int)) < 24)) s
def Cb (kind n : Int) : Mm Unit := fun s => Mb (Ia s) fun _ s => match s.calls with
 | [] => none
 | c :: r => (app 8796093022208 c.stack [⟨kind, n⟩]).bind fun l => some (.ok (), { s with calls := { c with stack := l } :: r })
def many : Mm MV := fun s => match s.calls with
 | [] => none
 | c :: r => Mb (Bc (decide ((c.stack.length : Int) > 0)) s) fun _ s => (idx c.stack (wr ((c.stack.length : Int) - 1))).bind fun v => (FQ c.stack 0 (wr ((c.stack.length : Int) - 1))).bind fun l => some (.ok v, { s with calls := { c with stack := l } :: r })
def Ic : Mm MV := fun s => Mb (many s) fun v s => Mb (Bc (v.kind == 3) s) fun _ s => some (.ok v, s)
def Lc (is : Bool) : Mm Unit := Cb 2 (if is = true then 1 else 0)
def Gu (v : MV) : Mm Int := fun s => if (v.n == 0) = true then GL 2 s else some (.ok v.n, s)
def KE (i : Int) (v : MV) : Mm Unit := fun s => match s.calls with
 | [] => none
 | c :: r => (idx c.vars i).bind fun _ => some (.ok (), { s with calls := { c with vars := c.vars.set i.toNat v } :: r })
def Ly (i : Int) : Mm MV := fun s => match s.calls with
 | [] => none
 | c :: _ => Mb (Bc (decide (i < (c.vars.length : Int))) s) fun _ s => (idx c.vars i).bind fun v => some (.ok v, s)
def I6 (i : Int) : Mm Unit := fun s => match s.calls with
 | [] => none
 | c :: _ => Bc (decide (i < (c.vars.length : Int))) s
def I9 (op : UInt8) (A : Int) : Mm Unit := fun s =>
 if ((op.toNat : Int) == 4) = true then Mb (Ly A s) fun v s => Mb (Bc (v.kind != 0) s) fun _ s => Cb v.kind v.n s
 else if ((op.toNat : Int) == 5) = true then Mb (I6 A s) fun _ s => Mb (many s) fun v s => Mb (Bc (v.kind != 0) s) fun _ s => KE A v s
 else if ((op.toNat : Int) == 6) = true then Mb (many s) fun _ s => some (.ok (), s)
 else if ((op.toNat : Int) == 7) = true then Mb (many s) fun v s => Mb (Cb v.kind v.n s) fun _ s => Cb v.kind v.n s
 else Mb (many s) fun v s => Mb (many s) fun w s => Mb (Cb v.kind v.n s) fun _ s => Cb w.kind w.n s
def Jr (s : MS) (ref : Int) : Int × Bool := match idx s.A4 (ref - 1) with
 | none => (0, false)
 | some o => if decide (o.cls < 0) = true then (0, false) else (o.cls, true)
def M5 (s : MS) (ref i : Int) : Option (Int × Int) := (idx s.A4 (ref - 1)).bind fun o =>
 if decide (i < 0) = true then some (0, 142) else if decide (i ≥ (o.nums.length : Int)) = true then some (0, 142) else (idx o.nums i).bind fun v => some (v, 0)
def FU (s : MS) (ref i v : Int) : Option (Int × MS) := (idx s.A4 (ref - 1)).bind fun o =>
 if decide (i < 0) = true then some (142, s) else if decide (i ≥ (o.nums.length : Int)) = true then some (142, s)
 else if decide (v < -2147483648) = true then some (5, s) else if decide (v > 2147483647) = true then some (5, s)
 else (idx o.nums i).bind fun _ => some (0, { s with A4 := s.A4.set (ref - 1).toNat ⟨o.cls, o.nums.set i.toNat v⟩ })
def BU (s : MS) (ref : Int) : Option (Int × Int) := (idx s.A4 (ref - 1)).bind fun o => some ((o.nums.length : Int), 0)
def Ie (s : MS) (cls n : Int) : Option ((Int × Int) × MS) :=
 if decide (n > wr (wr (s.room - s.used) - 1)) = true then some ((0, 7), s) else (Ol 8 n (0 : Int)).bind fun l =>
  if (wr ((s.A4.length : Int) + 1) == (s.A4.length : Int) + 1) = true then some ((wr ((s.A4.length : Int) + 1), 0), { s with used := wr (s.used + wr (n + 1)), A4 := s.A4 ++ [⟨cls, l⟩] }) else none
def hrow (s : MS) (n : Int) : Option ((Int × Int) × MS) := if decide (n < 0) = true then some ((0, 5), s) else Ie s (-1) n
noncomputable def Iz (s : MS) (cls : Int) : Option ((Int × Int) × MS) :=
 if decide (cls < 0) = true then some ((0, 1), s) else if decide (cls ≥ (s.m.Classes.length : Int)) = true then some ((0, 1), s) else (De s.m.Classes cls).bind fun l => Ie s cls (l.length : Int)
def GY (l : List Ad) (cls : Int) (st : Int × Bool) : Option ((Int × Bool) ⊕ Bool) :=
 if st.2 = true then (if (st.1 != cls) = true then (idx l st.1).bind fun c => some (.inl (c.Al, decide (c.Al ≥ 0))) else some (.inr st.2)) else some (.inr st.2)
noncomputable def Jm (s : MS) (ref cls : Int) : Option Bool := Ay (GY s.m.Classes cls) (Jr s ref)
noncomputable def Ro (s : MS) (v : MV) (t : UInt8) : Option Bool :=
 if ((t.toNat : Int) == 1) = true then some (v.kind == 1) else if ((t.toNat : Int) == 2) = true then some (v.kind == 2) else if (v.kind != 3) = true then some false
 else if (v.n == 0) = true then some true else if ((t.toNat : Int) == 5) = true then some true else if ((t.toNat : Int) == 4) = true then some (!(Jr s v.n).2)
 else Jm s v.n ((Ew ((t.toNat : Int) - 16)).toNat : Int)
noncomputable def DD (t : UInt8) : Mm MV := fun s => Mb (many s) fun v s => (Ro s v t).bind fun ok => if ok = true then some (.ok v, s) else some (.no 153 0 0, s)
def PG (n : Int) : Int := wr (IntKind.i32.wrap n)
noncomputable def Io (op : UInt8) : Mm Unit := fun s =>
 if ((op.toNat : Int) == 14) = true then Mb (DD 1 s) fun x s => Cb 1 (PG (wr (0 - x.n))) s
 else if ((op.toNat : Int) == 17) = true then Mb (DD 2 s) fun x s => Cb 2 (wr (1 - x.n)) s
 else if ((op.toNat : Int) == 16) = true then Mb (many s) fun y s => Mb (many s) fun x s => Mb (Bc (if (x.kind == y.kind) = true then (if (x.kind == 1) = true then true else (x.kind == 2)) else false) s) fun _ s => Lc (x.n == y.n) s
 else Mb (DD 1 s) fun y s => Mb (DD 1 s) fun x s =>
  if ((op.toNat : Int) == 9) = true then Cb 1 (PG (wr (x.n + y.n))) s
  else if ((op.toNat : Int) == 10) = true then Cb 1 (PG (wr (x.n - y.n))) s
  else if ((op.toNat : Int) == 11) = true then Cb 1 (PG (wr (x.n * y.n))) s
  else if ((op.toNat : Int) == 15) = true then Lc (decide (x.n < y.n)) s
  else if (y.n == 0) = true then GL 1 s
  else if ((op.toNat : Int) == 12) = true then Cb 1 (PG (wr (x.n.tdiv y.n))) s
  else Cb 1 (x.n.tmod y.n) s
def Xu (x : MV) : Int × Int := (x.kind, x.n)
def BP : Ty MV := Ty.iso (Ty.pair (Ty.int .i64) (Ty.int .i64)) Xu
theorem DY : Flat BP (fun x => [.int .i64 x.kind, .int .i64 x.n]) := Flat.iso (Flat.pair (Flat.int _) (Flat.int _)) _
structure CR where
 fn : Int
 at_ : Int
 vv : Cq
 vs : Cq
def Wa (x : CR) : Int × Int × Cq × Cq := (x.fn, x.at_, x.vv, x.vs)
theorem TJ : Flat Ty.UG (fun x => [x.v]) := Flat.scalar _ _
def T_craw : Ty CR := Ty.iso (Ty.pair (Ty.int .i64) (Ty.pair (Ty.int .i64) (Ty.pair Ty.UG Ty.UG))) Wa
theorem G4 : Flat T_craw (fun x => [.int .i64 x.fn, .int .i64 x.at_, x.vv.v, x.vs.v]) := Flat.iso (Flat.pair (Flat.int _) (Flat.pair (Flat.int _) (Flat.pair TJ TJ))) _
abbrev EM : Value := .iface 61 (.agg ⟨[]⟩)
def Kw (e t r : Int) : Value := .iface 97 (.agg ⟨[.int .i64 e, .int .i64 t, .int .i64 r]⟩)
structure MK where
 g : Nat
 gh : Nat
 gm : Nat
 v1 : Value
 v2 : Value
 v3 : Value
 vhc : Value
structure MK.In (K : MK) (w : World) (FF : List Nat) (m : Ah) : Prop where
 c : Rd Ag w FF K.v1 m.Classes
 f : Rd As w FF K.v2 m.Funcs
 h : Rd Ag w FF K.vhc m.Classes
theorem MK.In.pass {K : MK} {w0 w : World} {F0 F : List Nat} {m : Ah} {ps : List Ck} (h : K.In w0 F0 m) (hs : SL w0 F0 w ps) (hF : ∀ k ∈ F, k ∈ F0 ∨ w0.heap.size ≤ k) : K.In w F m := ⟨h.c.pass hs hF, h.f.pass hs hF, h.h.pass hs hF⟩
abbrev Lay := List (Cq × Cq)
def Bb : Lay → List MC → List CR
 | (a, b) :: cs, c :: r => ⟨c.fn, c.at_, a, b⟩ :: Bb cs r
 | _, _ => []
def HU : Lay → List MC → List Ck
 | (a, b) :: cs, c :: r => Sl BP a.v c.vars :: Sl BP b.v c.stack :: HU cs r
 | _, _ => []
def Fo (l : List Ck) : Ck := ⟨fun w F => Aw l w F, fun h hk => h.loc hk, fun h => h.lt⟩
def Ho : List (Nat × Cq) → List MO → List Ck
 | (g, v) :: os, o :: r => Ae g 210 [.int .i64 o.cls, v.v] :: Sl (Ty.int .i64) v.v o.nums :: Ho os r
 | _, _ => []
def refsOf : Nat → List (Nat × Cq) → List (Int × Option Nat)
 | _, [] => []
 | i, (g, _) :: os => ((i : Int), some g) :: refsOf (i + 1) os
def EH (K : MK) (S : MS) (os : List (Nat × Cq)) : List Ck :=
 [Ae K.gh 152 [K.vhc, .int .i64 S.room, .int .i64 S.used, .int .i64 (S.A4.length : Int), .map (some K.gm)], Mp (Value.int .i64) JI K.gm (refsOf 1 os), Fo (Ho os S.A4)]
def Oj (K : MK) (S : MS) : Ck := Any fun qs => ∃ os : List (Nat × Cq), os.length = S.A4.length ∧ qs = EH K S os
abbrev IE (K : MK) (vc vt : Value) (S : MS) : List Value := [EM, .string ⟨⟨S.m.Name⟩⟩, K.v1, K.v2, K.v3, jP K.gh, vc, .int .i64 S.steps, vt, .bool S.over, .int .i64 S.h1, .int .i64 S.h2, .int .i64 S.h3]
abbrev mS (K : MK) (vc vt : Value) (cs : Lay) (S : MS) : List Ck := [Ae K.g 99 (IE K vc vt S), Sl T_craw vc (Bb cs S.calls).reverse, Fo (HU cs S.calls), Sl (Ty.int .i64) vt S.told, Oj K S]
section
variable {w0 w : World} {F0 : List Nat} {ps qs l : List Ck}
theorem SL.J1 (hs : SL w0 F0 w (qs ++ ps)) : SL w0 F0 w (Fo qs :: ps) := hs.re fun F hst => by
 obtain ⟨F1, F2, e, h1, h2, hd⟩ := Aw.append.1 hst
 exact ⟨F, ⟨F1, F2, e, h1, h2, hd⟩, fun _ => Iff.rfl⟩
theorem SL.Mi (hs : SL w0 F0 w (Fo qs :: ps)) : SL w0 F0 w (qs ++ ps) := by
 obtain ⟨F, ⟨F1, F2, e, h1, h2, hd⟩, hF⟩ := hs.st
 exact ⟨hs.fm, F, Aw.append.2 ⟨F1, F2, e, h1, h2, hd⟩, hF⟩
theorem SL.comm (hs : SL w0 F0 w (qs ++ ps)) : SL w0 F0 w (ps ++ qs) := hs.re fun F hst => by
 obtain ⟨F1, F2, rfl, h1, h2, hd⟩ := Aw.append.1 hst
 exact ⟨F2 ++ F1, Aw.append.2 ⟨F2, F1, rfl, h2, h1, fun k hk hk' => hd k hk' hk⟩, fun k => by simp [or_comm]⟩
end
theorem MH : ∀ {cs : Lay} {l : List MC}, cs.length = l.length → (Bb cs l).length = l.length
 | [], [], _ => rfl
 | (a, b) :: cs, c :: r, h => by simp only [Bb, Y5]; rw [MH (by simpa using h)]
 | [], _ :: _, h => by cases h
 | _ :: _, [], h => by cases h
def WQ {α : Type} (r : Re α) (S : α → Value → World → Prop) (E : World → Prop) : Ending → World → Prop
 | .returned v, w => ∃ x, r = .ok x ∧ S x v w
 | .panicked ch, w => ∃ e t q, r = .no e t q ∧ ch = L9 (Kw e t q) ∧ E w
 | _, _ => False
def C0 {α Y : Type} (r : Re α) (V : α → Value → Prop) (C : Y → Prop) (q : Y → List Ck) (w : World) (F : List Nat) : Ending → World → Prop :=
 WQ r (fun x v w' => V x v ∧ ∃ y, C y ∧ SL w F w' (q y)) (fun w' => ∃ y, C y ∧ SL w F w' (q y))
section
variable {P : Program} {w w0 w' : World} {m m' : CL} {ops : Array Oper} {Q Q0 : Exit → Act → World → Prop} {a : Act} {n : Nat} {l l' : List Oper} {v : Value} {K : List Kf} {X X' : Act → World → Prop} {F F0 : List Nat} {loc ps : List Ck}
variable {dd : Option Tmp} {d : Nat} {ty : TypeId} {pos : String} {aft : Array Edge} {f : Nat} {args : List Operand} {ats : Array TypeId} {vs : List Value} {α Y : Type} {r : Re α} {V : α → Value → Prop} {C : Y → Prop} {q : Y → List Ck}
theorem fE {av : Array Value} (hs : SL w0 F0 w (loc ++ ps)) (h : ∀ F, Aw ps w F → (∀ k ∈ F, k ∈ F0 ∨ w0.heap.size ≤ k) → Calls P f av w (C0 r V C q w F)) : Calls P f av w (C0 r V C (fun y => loc ++ q y) w0 F0) := by
 obtain ⟨F, h1, h2, h3, h4⟩ := SL.open_ (SL.comm hs)
 refine (h F h1 h2).mono ?_
 intro e w' he
 cases e with
 | returned v => obtain ⟨x, hx, hV, y, hC, hq⟩ := he; exact ⟨x, hx, hV, y, hC, SL.comm (h4 _ _ hq)⟩
 | panicked ch => obtain ⟨e, t, q, hx, hV, y, hC, hq⟩ := he; exact ⟨e, t, q, hx, hV, y, hC, SL.comm (h4 _ _ hq)⟩
 | outgrown => exact he
theorem C0.ok {x : α} {e : Ending} (h : C0 (.ok x) V C q w F e w') : AN (fun v w' => V x v ∧ ∃ y, C y ∧ SL w F w' (q y)) e w' := by
 cases e with
 | returned v => obtain ⟨x, hx, hV⟩ := h; cases hx; exact ⟨v, rfl, hV⟩
 | panicked ch => obtain ⟨e, t, q, hx, _⟩ := h; cases hx
 | outgrown => exact h.elim
theorem C0.no {e1 e2 e3 : Int} {e : Ending} (h : C0 (.no e1 e2 e3 : Re α) V C q w F e w') : Tn (Kw e1 e2 e3) (fun w' => ∃ y, C y ∧ SL w F w' (q y)) e w' := by
 cases e with
 | returned v => obtain ⟨x, hx, hV⟩ := h; cases hx
 | panicked ch => obtain ⟨e, t, q, hx, hc, h⟩ := h; cases hx; exact ⟨by rw [hc], h⟩
 | outgrown => exact h.elim
section
variable [h0 : BO P]
theorem kc {x : α} (hF : Fr a n m) (hc : Calls P f vs.toArray w (C0 (.ok x) V C q w0 F0)) (k : ∀ v w a y, V x v → C y → SL w0 F0 w (q y) → Fr a n ((d, v) :: m) → wpList P ops (Bg P Q0 K) l a w) (hargs : Fp m args = some vs := by rfl) (hf : Et h0.T.fn f = true := by rfl) (hlt : Nat.blt d n = true := by rfl) :
  wpList P ops (Bg P Q0 K) (⟨some d, .call { callee := .value (.func f), args := args.toArray, argTypes := ats }, ty, pos, aft, none⟩ :: l) a w :=
 AU hF (hc.mono fun _ _ h => h.ok) (fun v w a ⟨hV, y, hC, hq⟩ hF => k v w a y hV hC hq hF) hargs hf hlt
theorem kn {fn : Func} {e1 e2 e3 : Int} {R : Ending → World → Prop} (hF : Fr a n m) (hc : Calls P f vs.toArray w (C0 (.no e1 e2 e3 : Re α) V C q w0 F0)) (k : ∀ w y, C y → SL w0 F0 w (q y) → R (.panicked (L9 (Kw e1 e2 e3))) w) (hargs : Fp m args = some vs := by rfl) (hf : Et h0.T.fn f = true := by rfl) (hK : NE K = true := by rfl) :
  wpList P ops (Bg P (bodyPost P fn R) K) (⟨dd, .call { callee := .value (.func f), args := args.toArray, argTypes := ats }, ty, pos, aft, none⟩ :: l) a w :=
 Hn hF (hc.mono fun _ _ h => h.no) (fun w ⟨y, hC, hq⟩ => Br hK hF (k w y hC hq)) hargs hf
theorem IM {x : α} {St : World → Prop} {fin D : List Nat} (i : Nat) (hF : Fr a n m) (hc : Calls P f vs.toArray w (C0 (.ok x) V C q w0 F0)) (k : ∀ v w a y, V x v → C y → SL w0 F0 w (q y) → Fr a n ((d, v) :: m) → KP P ops Q St fin i D a w) (hi : ops[i]? = some ⟨some d, .call { callee := .value (.func f), args := args.toArray, argTypes := ats }, ty, pos, aft, none⟩ := by rfl) (hargs : Fp m args = some vs := by rfl) (hf : Et h0.T.fn f = true := by rfl) (hlt : Nat.blt d n = true := by rfl) (hr : Jt ops D [i] = true := by kernel_rfl) : HP P ops Q St fin D a w :=
 BN i hi (AU hF (hc.mono fun _ _ h => h.ok) (fun v w a ⟨hV, y, hC, hq⟩ hF => A8 (k v w a y hV hC hq hF)) hargs hf hlt) hr
theorem IP {e1 e2 e3 : Int} {St : World → Prop} {fin D : List Nat} (i : Nat) (hF : Fr a n m) (hc : Calls P f vs.toArray w (C0 (.no e1 e2 e3 : Re α) V C q w0 F0)) (k : ∀ w y, C y → SL w0 F0 w (q y) → Q (.panic (L9 (Kw e1 e2 e3))) a w) (hi : ops[i]? = some ⟨dd, .call { callee := .value (.func f), args := args.toArray, argTypes := ats }, ty, pos, aft, none⟩ := by rfl) (hargs : Fp m args = some vs := by rfl) (hf : Et h0.T.fn f = true := by rfl) (hr : Jt ops D [i] = true := by kernel_rfl) : HP P ops Q St fin D a w :=
 Yf i hF (hc.mono fun _ _ h => h.no) (fun w ⟨y, hC, hq⟩ => k w y hC hq) hi hr hargs hf
end
theorem rE {fn : Func} {x : α} {vs : List Value} {y : Y} (hF : Fr a n m) (hr : r = .ok x) (hV : V x (PZ vs)) (hC : C y) (hs : SL w0 F0 w (q y)) (hv : OZ m fn.results.toList = some vs := by rfl) : bodyPost P fn (C0 r V C q w0 F0) .ret a w :=
 B5 (rs := fn.results.toList) hF (by simp) (NB hv) ⟨x, hr, hV, y, hC, hs⟩
theorem rN {fn : Func} {x : α} {y : Y} (hF : Fr a n m) (hr : r = .ok x) (hV : V x (.tuple #[])) (hC : C y) (hs : SL w0 F0 w (q y)) (hv : fn.results = #[] := by rfl) : bodyPost P fn (C0 r V C q w0 F0) .normal a w :=
 Kd hF hv ⟨x, hr, hV, y, hC, hs⟩
theorem Wo {fn : Func} {x : α} {y : Y} {g tt ty k : Nat} {cs : List Value} {qs : List Ck} (hF : Fr a n m) (hr : r = .ok x) (hC : C y) (hs : SL w0 F0 w qs) (hm : Ae g ty cs ∈ qs) (hb : El P ty k = true) (hk : cs.length = k) (hV : V x (.agg ⟨cs⟩)) (hq : SL w0 F0 w (q y)) (hv : fn.results = #[.cell tt ty] := by rfl) (hl : Pv.look m tt = some (.pointer (some ⟨g, 0, none⟩)) := by rfl) : bodyPost P fn (C0 r V C q w0 F0) .ret a w :=
 B5 (rs := [.cell tt ty]) (vs := [.agg ⟨cs⟩]) hF hv ⟨_, _, rfl, RV.blk hs hm hl hb hk, rfl⟩ ⟨x, hr, hV, y, hC, hq⟩
theorem rP {e1 e2 e3 : Int} {y : Y} (hr : r = .no e1 e2 e3) (hC : C y) (hs : SL w0 F0 w (q y)) : C0 r V C q w0 F0 (.panicked (L9 (Kw e1 e2 e3))) w := ⟨e1, e2, e3, hr, rfl, y, hC, hs⟩
end
end Go.Proofs.YtpnacdckamiedaaGreat
namespace Go.Proofs.YtpnacdckamiedaaGreat
open Go Go.RowKit Go.Pv Go.Proofs.Tryz
abbrev Co : BO prog := ⟨⟨[(99, 0, 0, 1), (99, 1, 1, 4), (99, 2, 5, 1), (99, 3, 6, 1), (99, 4, 7, 1), (99, 5, 8, 1), (99, 6, 9, 1), (99, 7, 10, 3), (122, 0, 0, 1), (122, 1, 1, 1), (26, 1, 1, 1), (26, 2, 2, 1), (69, 1, 1, 2), (69, 2, 3, 1), (69, 3, 4, 1), (66, 0, 0, 1), (66, 1, 1, 1), (130, 0, 0, 1), (130, 1, 1, 1), (130, 2, 2, 1), (130, 3, 3, 1), (97, 0, 0, 1), (97, 1, 1, 1), (97, 2, 2, 1), (152, 0, 0, 1), (152, 1, 1, 1), (152, 2, 2, 1), (152, 3, 3, 1), (152, 4, 4, 1), (210, 0, 0, 1), (210, 1, 1, 1), (109, 2, 2, 1)],
 [35, 36, 43, 44, 48, 57, 59, 66, 67, 68, 69, 70, 71, 72, 73, 74, 75, 76, 77, 89, 103, 104, 105, 106, 107, 108, 109, 110, 111, 112, 113, 114, 115, 116, 117, 132, 133, 134, 135, 136, 137, 143, 145, 162, 163, 164, 38, 39, 40, 41, 42, 30, 47], [3, 4, 5, 22, 23, 27, 30, 63, 64, 67, 72, 93, 94, 95, 102, 104, 107, 150, 203], [(122, 2), (130, 4), (69, 5), (97, 3), (66, 2), (26, 4), (109, 3)]⟩, by kernel_rfl⟩
theorem MY : Dy prog 95 106 4 64 (Gb 4) = true := by kernel_rfl
theorem FZ : Dy prog 104 122 2 16 (Gb 2) = true := by kernel_rfl
theorem NH : FD prog 106 0 0 1 = true := by kernel_rfl
theorem Ip : FD prog 106 1 1 1 = true := by kernel_rfl
theorem JP : FD prog 106 2 2 1 = true := by kernel_rfl
theorem FI : FD prog 106 3 3 1 = true := by kernel_rfl
theorem Gs : Do prog 104 = true := by kernel_rfl
theorem Wu : Do prog 93 = true := by kernel_rfl
theorem D1 : Do prog 3 = true := by kernel_rfl
theorem JZ : (prog.info? 97).bind (·.zero) = some (.agg ⟨[.int .i64 0, .int .i64 0, .int .i64 0]⟩) := by kernel_rfl
theorem PT : HH prog 97 [(0, 1), (1, 1), (2, 1)] = true := by kernel_rfl
theorem Cn : prog.follows .mixedOrders = true := by kernel_rfl
def LJ (vc : Value) (r : List MC) (ad : Addr) : Prop := Lf T_craw.sz vc (r.length : Int) ad
theorem En {cs : Lay} {c : MC} {r : List MC} (hl : cs.length = (c :: r).length) : ∃ (a b : Cq) (cs' : Lay), cs = (a, b) :: cs' ∧ cs'.length = r.length ∧ (Bb cs (c :: r)).reverse = (Bb cs' r).reverse ++ [⟨c.fn, c.at_, a, b⟩] := by
 cases cs with
 | nil => cases hl
 | cons x cs =>
  obtain ⟨a, b⟩ := x
  exact ⟨a, b, cs, rfl, by simpa using hl, by simp [Bb]⟩
theorem Hv {cs : Lay} {r : List MC} (hl : cs.length = r.length) (x : CR) : idx ((Bb cs r).reverse ++ [x]) (r.length : Int) = some x := by
 unfold idx
 rw [Ab (by omega)]
 have := MH hl
 simp [this]
theorem Ez {cs : Lay} {l : List MC} (hl : cs.length = l.length) : ((Bb cs l).reverse).length = l.length := by rw [List.length_reverse, MH hl]
section
variable {w : World} {FF : List Nat} {K : MK} {vc vt : Value} {cs : Lay} {S : MS}
theorem Xw {c : MC} {r : List MC} (hst : Aw (mS K vc vt cs S) w FF) (hl : cs.length = S.calls.length) (hc : S.calls = c :: r) (hb : wr (((r.length + 1 : Nat) : Int) - 1) = (r.length : Int)) :
  Calls prog 35 #[jP K.g] w (AN fun u w_ => (∃ ad, u = .pointer (some ad) ∧ LJ vc r ad) ∧ SL w FF w_ (mS K vc vt cs S)) := by
 letI := Co
 have s0 : SL w FF w (mS K vc vt cs S) := SL.init w FF hst
 have hL := Ez hl
 obtain ⟨A, cap, hv⟩ := s0.form (T := T_craw) (l := (Bb cs S.calls).reverse) m1
 have hx : ∃ x, idx (Bb cs S.calls).reverse (r.length : Int) = some x := by
  rw [hc] at hl
  obtain ⟨a, b, cs', rfl, hl', e⟩ := En hl
  rw [hc, e]
  exact ⟨_, Hv hl' _⟩
 obtain ⟨x, hx⟩ := hx
 obtain ⟨ad, hI, hE⟩ := Gm G4 s0 m1 MY rfl hx
 rw [hL, hc, Y5] at hv
 rw [← hb] at hI
 refine C9 func35 ntmps35 fun _ F0 => ?_
 refine N8 Cn s0 F0 (QR.ev 3 rfl <| QR.ld m0 rfl <| QR.ev 3 rfl <| QR.ld m0 rfl <| QR.qo (fun w hw => Ao rfl underlying95 ⟨A, cap, hv⟩) rfl <| QR.ev 1 rfl <| QR.ix hI rfl <| QR.ev 1 rfl <| QR.nil) fun w1 _ s1 F1 => ?_
 refine ze F1 fun _ F2 => ?_
 exact rt F2 ⟨⟨ad, rfl, hE⟩, s1⟩
theorem X1 {ok : Bool} {w : World} : Calls prog 163 #[.agg ⟨[]⟩, .bool ok] w (AN fun u w_ => u = .bool ok ∧ SL w [] w_ []) := by
 letI := Co
 have s0 : SL w [] w [] := SL.Bf w
 refine C9 func163 ntmps163 fun _ F0 => ?_
 refine Bz F0 s0 rfl rfl rfl fun g w1 _ F1 s1 => ?_
 refine zw F1 fun _ F2 => ?_
 exact rt F2 ⟨rfl, s1.drop⟩
theorem UX (ok : Bool) {l : List Ck} {vs : List Value} (hst : Aw (Ae K.g 99 (EM :: vs) :: l) w FF) :
  Calls prog 66 #[jP K.g, .bool ok] w (C0 (if ok = true then .ok () else .no 153 0 0 : Re Unit) (fun _ v => v = .tuple #[]) (fun _ : Unit => True) (fun _ => Ae K.g 99 (EM :: vs) :: l) w FF) := by
 letI := Co
 have s0 : SL w FF w (Ae K.g 99 (EM :: vs) :: l) := SL.init w FF hst
 refine C9 func66 ntmps66 fun _ F0 => ?_
 refine zx F0 (Ar Wu rfl (s0.Aq m0 (o := 0) rfl)) fun _ F1 => ?_
 refine S8 (vs := [.agg ⟨[]⟩, .bool ok]) (args := [.tmp 8]) F1 rfl rfl (by kernel_rfl) X1 (fun v w2 _ hS F2 => ?_)
 obtain ⟨rfl, hq⟩ := hS
 have s1 : SL w FF w2 _ := s0.add hq
 cases ok with
 | true =>
  refine zw F2 fun _ F3 => ?_
  refine zf F3 rfl fun _ F3 => ?_
  exact rN (y := ()) F3 rfl rfl trivial s1
 | false =>
  refine zw F2 fun _ F3 => ?_
  refine zt F3 rfl fun _ F3 => ?_
  refine zx F3 (AP (vs := [.int .i64 153]) JZ PT rfl (cs := [.int .i64 153, .int .i64 0, .int .i64 0]) (by rfl)) fun _ F4 => ?_
  refine zx F4 (I5 rfl underlying97 (fun _ h => by cases h)) fun _ F5 => ?_
  exact Jz F5 rfl (Br rfl F5 (rP (y := ()) rfl trivial s1))
variable {w0 : World} {F0 : List Nat} {loc : List Ck} {c : MC} {r : List MC}
theorem HN (hs : SL w0 F0 w (loc ++ mS K vc vt cs S)) (hl : cs.length = S.calls.length) (hc : S.calls = c :: r) (hb : wr (((r.length + 1 : Nat) : Int) - 1) = (r.length : Int)) :
  Calls prog 35 #[jP K.g] w (AN fun u w_ => (∃ ad, u = .pointer (some ad) ∧ LJ vc r ad) ∧ SL w0 F0 w_ (loc ++ mS K vc vt cs S)) := by
 obtain ⟨F, h1, h2, h3, h4⟩ := SL.open_ (SL.comm hs)
 refine (Xw h1 hl hc hb).mono ?_
 rintro e w' ⟨v, rfl, hS, hq⟩
 exact ⟨v, rfl, hS, SL.comm (h4 _ _ hq)⟩
theorem Dm (ok : Bool) (hs : SL w0 F0 w (loc ++ mS K vc vt cs S)) :
  Calls prog 66 #[jP K.g, .bool ok] w (C0 (if ok = true then .ok () else .no 153 0 0 : Re Unit) (fun _ v => v = .tuple #[]) (fun _ : Unit => True) (fun _ => loc ++ mS K vc vt cs S) w0 F0) := fE hs fun F h _ => UX ok h
theorem SL.UH {p q : Ck} {l X : List Ck} (hs : SL w0 F0 w (Fo (p :: q :: l) :: X)) : SL w0 F0 w (p :: q :: Fo l :: X) := by
 have h5 : SL w0 F0 w ((l ++ X) ++ [p, q]) := SL.comm (qs := [p, q]) (SL.Mi (qs := p :: q :: l) hs)
 rw [Y6] at h5
 exact SL.comm (qs := Fo l :: X) (SL.J1 h5)
theorem SL.TM {p q : Ck} {l X : List Ck} (hs : SL w0 F0 w (p :: q :: Fo l :: X)) : SL w0 F0 w (Fo (p :: q :: l) :: X) := by
 have h5 : SL w0 F0 w (l ++ (X ++ [p, q])) := SL.Mi (SL.comm (qs := [p, q]) hs)
 rw [← Y6] at h5
 exact SL.J1 (qs := p :: q :: l) (SL.comm (ps := [p, q]) (qs := l ++ X) h5)
abbrev mO (K : MK) (vc vt : Value) (a b : Cq) (cs : Lay) (S : MS) (c : MC) (r : List MC) : List Ck := [Sl BP a.v c.vars, Sl BP b.v c.stack, Fo (HU cs r), Ae K.g 99 (IE K vc vt S), Sl T_craw vc ((Bb cs r).reverse ++ [⟨c.fn, c.at_, a, b⟩]), Sl (Ty.int .i64) vt S.told, Oj K S]
theorem SL.Mh {ps : List Ck} {a b : Cq} (hs : SL w0 F0 w (mO K vc vt a b cs S c r ++ ps)) (hc : S.calls = c :: r) : SL w0 F0 w (mS K vc vt ((a, b) :: cs) S ++ ps) := by
 have h1 := (SL.TM hs).f2.f2
 show SL w0 F0 w (Ae K.g 99 (IE K vc vt S) :: Sl T_craw vc (Bb ((a, b) :: cs) S.calls).reverse :: Fo (HU ((a, b) :: cs) S.calls) :: Sl (Ty.int .i64) vt S.told :: Oj K S :: ps)
 rw [hc]
 have e : (Bb ((a, b) :: cs) (c :: r)).reverse = (Bb cs r).reverse ++ [⟨c.fn, c.at_, a, b⟩] := by simp [Bb]
 rw [e]
 exact h1
theorem SL.mop {ps : List Ck} {a b : Cq} (hs : SL w0 F0 w (mS K vc vt ((a, b) :: cs) S ++ ps)) (hc : S.calls = c :: r) : SL w0 F0 w (mO K vc vt a b cs S c r ++ ps) := by
 have h1 := hs.f2
 have e : (Bb ((a, b) :: cs) (c :: r)).reverse = (Bb cs r).reverse ++ [⟨c.fn, c.at_, a, b⟩] := by simp [Bb]
 rw [hc, e] at h1
 exact SL.UH h1
theorem SL.GR {ps : List Ck} {a b : Cq} {ad : Addr} (hs : SL w0 F0 w (ps ++ mS K vc vt ((a, b) :: cs) S)) (hc : S.calls = c :: r) (hl : cs.length = r.length) (h : LJ vc r ad) : Cells w ad [.int .i64 c.fn, .int .i64 c.at_, a.v, b.v] :=
 SL.GT G4 (SL.mop (SL.comm hs) hc) m4 h (Hv hl ⟨c.fn, c.at_, a, b⟩)
theorem QI.fl {P : Program} {ops : Array Oper} {n d d' s f off sz t i j : Nat} {m m' : CL} {is : List Nat} {St : World → Prop} {x : Operand} {ad : Addr} {cs : List Value} {u : Value} {ty ty' : TypeId} {pos pos' : String} {aft aft' : Array Edge}
  (hfa : FD P s f off sz = true) (hng : Do P t = true) (hc : ∀ w, St w → Cells w ad cs) (hi : ops[i]? = some ⟨some d, .fieldAddr s x f, ty, pos, aft, none⟩) (hj : ops[j]? = some ⟨some d', .load t (.tmp d), ty', pos', aft', none⟩) (hx : ev m x = some (.pointer (some ad))) (hu : cs[off]? = some u) (hd : Nat.blt d n = true) (hd' : Nat.blt d' n = true)
  (k : QI P ops n St ((d', u) :: (d, .pointer (some (ad.add off))) :: m) is m') : QI P ops n St m (i :: j :: is) m' :=
 QI.op hi (fun w hw => Di hfa hx) (by unfold FP; simp only [hd]; rfl) <| QI.op hj (fun w hw => Ar hng (Dv _ _ _) ((hc w hw).at_ hu)) (by unfold FP; simp only [hd']; rfl) k
end
section
variable {w : World} {FF : List Nat} {K : MK} {vc vt : Value} {cs : Lay} {S : MS}
theorem Cm : (prog.info? 122).bind (·.zero) = some (.agg ⟨[.int .i64 0, .int .i64 0]⟩) := by kernel_rfl
theorem UR : HH prog 122 [(0, 1), (1, 1)] = true := by kernel_rfl
theorem UJ : (prog.info? 104).map (·.size) = some 1 := by kernel_rfl
theorem Eg : (prog.info? 122).map (·.size) = some 2 := by kernel_rfl
def FH (S : MS) : Bool := wr ((S.calls.length : Int) - 1) == (S.calls.length : Int) - 1
theorem GQ {c : MC} {r : List MC} (h : FH S = true) (hc : S.calls = c :: r) : wr (((r.length + 1 : Nat) : Int) - 1) = (r.length : Int) := by
 unfold FH at h
 rw [hc, Y5] at h
 rw [eq_of_beq h]
 omega
variable {w0 : World} {F0 : List Nat} {loc : List Ck}
theorem N2 {p : Re Unit × MS} (s0 : SL w0 F0 w (loc ++ mS K vc vt cs S)) (hl : cs.length = S.calls.length) (hfew : FH S = true) (H : Ia S = some p) :
  Calls prog 104 #[jP K.g] w (C0 p.1 (fun _ v => v = .tuple #[]) (fun _ : Unit => p.2 = S) (fun _ => loc ++ mS K vc vt cs S) w0 F0) := by
 letI := Co
 unfold Ia at H
 split at H
 ·cases H
 rename_i c r hc
 refine C9 func104 ntmps104 fun _ F1 => ?_
 refine AU F1 (HN s0 hl hc (GQ hfew hc)) fun v1 w1 _ hS F1 => ?_
 obtain ⟨⟨ad, rfl, hT⟩, s1⟩ := hS
 obtain ⟨a, b, cs', rfl, hl', _⟩ := En (hc ▸ hl)
 refine zw F1 fun _ F2 => ?_
 obtain ⟨A1, k1, e1⟩ := (SL.mop (SL.comm s1) hc).form m0
 obtain ⟨A2, k2, e2⟩ := (SL.mop (SL.comm s1) hc).form m1
 have hC := fun w (hw : SL w0 F0 w (loc ++ mS K vc vt ((a, b) :: cs') S)) => SL.GR hw hc hl' hT
 refine BH (fun w_ => SL w0 F0 w_ (loc ++ mS K vc vt ((a, b) :: cs') S)) [] Cn ?_
 refine Ce [0, 1, 2, 3, 4, 5, 6, 7, 8, 9, 10, 11, 12] F2 (Bl rfl) s1.drew (QI.ev 3 rfl <| QI.fl JP Gs hC rfl rfl rfl rfl rfl rfl <| QI.op rfl (fun w hw => Ao rfl underlying104 ⟨A1, k1, e1⟩) rfl <| QI.ev 2 rfl <|
  QI.fl FI Gs hC rfl rfl rfl rfl rfl rfl <| QI.op rfl (fun w hw => Ao rfl underlying104 ⟨A2, k2, e2⟩) rfl <| QI.ev 2 rfl <| QI.nil) fun _ F3 => ?_
 have hst := Dm (decide (wr ((c.vars.length : Int) + (c.stack.length : Int)) < 24)) s1.drew
 unfold Bc at H
 split at H <;> rename_i hb
 ·cases H
  rw [Ab hb] at hst
  refine IM 13 F3 hst fun v2 w2 _ y hV _ s2 F4 => ⟨fun _ => s2, BE ?_⟩
  refine ze F4 fun _ F5 => ?_
  exact rN (y := ()) F5 rfl rfl rfl s2
 ·cases H
  rw [Ac hb] at hst
  exact IP 13 F3 hst fun w2 y _ s2 => Br rfl F3 (rP (y := ()) rfl rfl s2)
theorem MU {P : Program} [h0 : BO P] {ops : Array Oper} {Q0 : Exit → Act → World → Prop} {n d d' s f off sz t : Nat} {m m' : CL} {l : List Oper} {x : Operand} {ad : Addr} {cs : List Value} {u : Value} {ty ty' : TypeId} {pos pos' : String} {aft aft' : Array Edge} {a : Act} {Kk : List Kf} {X : Act → World → Prop}
  (hF : Fr a n m) (hfa : FD P s f off sz = true) (hng : Do P t = true) (hc : Cells w ad cs) (k : ∀ a, Fr a n m' → X a w) (hx : ev m x = some (.pointer (some ad)) := by rfl) (hu : cs[off]? = some u := by rfl) (hd : FP ⟨some d, .fieldAddr s x f, ty, pos, aft, none⟩ n = some d := by rfl) (hd' : FP ⟨some d', .load t (.tmp d), ty', pos', aft', none⟩ n = some d' := by rfl)
  (h : FR P Q0 h0.T n 900 (.li ops l) Kk ((d', u) :: (d, .pointer (some (ad.add off))) :: m) = some (m', X) := by rfl) : wpList P ops (Bg P Q0 Kk) (⟨some d, .fieldAddr s x f, ty, pos, aft, none⟩ :: ⟨some d', .load t (.tmp d), ty', pos', aft', none⟩ :: l) a w :=
 have ⟨h1, h2, h3⟩ := Gh hd
 EQ hF (Di hfa hx) h1 h2 h3 fun _ F => zx F (Ar hng (Dv _ _ _) (hc.at_ hu)) k hd' h
theorem KD {cs : Lay} {r : List MC} (hl : cs.length = r.length) (x y : CR) : ((Bb cs r).reverse ++ [x]).set ((r.length : Int)).toNat y = (Bb cs r).reverse ++ [y] := by
 have h := Ez hl
 rw [List.set_append_right _ _ (by omega)]
 simp [h]
def B1 (S : MS) (cs : Lay) : Prop := cs.length = S.calls.length ∧ FH S = true
theorem J0 {S S' : MS} (h : FH S = true) (e : S'.calls.length = S.calls.length) : FH S' = true := by
 unfold FH at h ⊢
 rw [e]; exact h
theorem C5 {kind nn : Int} {p : Re Unit × MS} (s0 : SL w0 F0 w (loc ++ mS K vc vt cs S)) (hL : B1 S cs) (H : Cb kind nn S = some p) :
  Calls prog 70 #[jP K.g, .int .i64 kind, .int .i64 nn] w (C0 p.1 (fun _ v => v = .tuple #[]) (B1 p.2) (fun cs => loc ++ mS K vc vt cs p.2) w0 F0) := by
 letI := Co
 obtain ⟨hl, hfew⟩ := hL
 unfold Cb at H
 refine C9 func70 ntmps70 fun _ F1 => ?_
 rcases AQ H with ⟨e, t, r, S1, hr, rfl⟩ | ⟨_, S1, hr, H2⟩
 ·refine kn F1 (N2 s0 hl hfew hr) fun w1 _ e s1 => ?_
  obtain rfl : S1 = S := e
  exact rP (y := cs) rfl ⟨hl, hfew⟩ s1
 clear H
 refine kc F1 (N2 s0 hl hfew hr) fun v1 w1 _ _ hv e s1 F2 => ?_
 obtain rfl : S1 = S := e
 obtain rfl := hv
 split at H2
 ·cases H2
 rename_i c r hc
 obtain ⟨l2, hap, H3⟩ := bind_ok H2
 clear H2
 cases H3
 refine zw F2 fun _ F2 => ?_
 refine AU F2 (HN s1 hl hc (GQ hfew hc)) fun v2 w2 _ hS F3 => ?_
 obtain ⟨⟨ad, rfl, hT⟩, s2⟩ := hS
 obtain ⟨a, b, cs', rfl, hl', _⟩ := En (hc ▸ hl)
 refine zw F3 fun _ F3 => ?_
 refine MU F3 FI Gs (SL.GR s2 hc hl' hT) fun _ F4 => ?_
 refine zx F4 (AP (vs := [.int .i64 kind, .int .i64 nn]) Cm UR rfl (cs := [.int .i64 kind, .int .i64 nn]) (by rfl)) fun _ F5 => ?_
 have s3 := SL.mop (SL.comm s2) hc
 refine B7 F5 (s3.C6 DY ⟨kind, nn⟩) FZ rfl rfl rfl rfl rfl fun u w3 _ F6 s4 => ?_
 obtain ⟨G, hG⟩ := s4.Bm m0
 refine Ba DY F6 s4.f2 FZ rfl rfl rfl rfl hG rfl rfl hap rfl fun v w4 _ F7 s5 => ?_
 refine zw F7 fun _ F8 => ?_
 have hone := Aj (s5.form m0)
 refine zx F8 (Di FI rfl) fun _ F9 => ?_
 refine J8 G4 (y' := ⟨c.fn, c.at_, a, ⟨v, hone⟩⟩) F9 s5.f5 hT (Hv hl' _) rfl rfl (AG (s5.form m0)) UJ rfl (by simpa using hone) rfl fun w5 _ F10 s6 => ?_
 rw [KD hl'] at s6
 refine zw F10 fun _ F11 => ?_
 refine rN (y := (a, ⟨v, hone⟩) :: cs') F11 rfl rfl ⟨by simp [hl'], J0 hfew (by simp [hc])⟩ (SL.comm (SL.Mh (c := ⟨c.fn, c.at_, c.vars, l2⟩) (r := r) s6.f2.drop.f4.f4.f3.f4 rfl))
end
end Go.Proofs.YtpnacdckamiedaaGreat
namespace Go.Proofs.YtpnacdckamiedaaGreat
open Go Go.RowKit Go.Pv Go.Proofs.Tryz
theorem Ld : El prog 122 2 = true := by kernel_rfl
abbrev PQ (x : MV) : Value := .agg ⟨[.int .i64 x.kind, .int .i64 x.n]⟩
section
variable {w : World} {K : MK} {vc vt : Value} {cs : Lay} {S : MS} {w0 : World} {F0 : List Nat} {loc : List Ck}
theorem Jd {p : Re MV × MS} (s0 : SL w0 F0 w (loc ++ mS K vc vt cs S)) (hL : B1 S cs) (H : many S = some p) :
  Calls prog 103 #[jP K.g] w (C0 p.1 (fun x v => v = PQ x) (B1 p.2) (fun cs => loc ++ mS K vc vt cs p.2) w0 F0) := by
 letI := Co
 obtain ⟨hl, hfew⟩ := hL
 unfold many at H
 split at H
 ·cases H
 rename_i c r hc
 refine C9 func103 ntmps103 fun _ F1 => ?_
 refine An F1 s0 Cm rfl rfl fun g1 w1 _ F2 s1 => ?_
 refine zw F2 fun _ F2 => ?_
 refine AU F2 (HN (loc := Ae g1 122 [.int .i64 0, .int .i64 0] :: loc) s1 hl hc (GQ hfew hc)) fun v2 w2 _ hS F3 => ?_
 obtain ⟨⟨ad, rfl, hT⟩, s2⟩ := hS
 obtain ⟨a, b, cs', rfl, hl', _⟩ := En (hc ▸ hl)
 refine zw F3 fun _ F3 => ?_
 refine MU F3 FI Gs (SL.GR (ps := Ae g1 122 [.int .i64 0, .int .i64 0] :: loc) s2 hc hl' hT) fun _ F4 => ?_
 have s3 := SL.mop (SL.comm s2) hc
 obtain ⟨A1, k1, e1⟩ := s3.form m1
 refine zx F4 (Ao rfl underlying104 ⟨A1, k1, e1⟩) fun _ F5 => ?_
 have hst := Dm (loc := Ae g1 122 [.int .i64 0, .int .i64 0] :: loc) (decide ((c.stack.length : Int) > 0)) s2
 rcases AQ H with ⟨e, t, q, S1, hr, rfl⟩ | ⟨_, S1, hr, H2⟩ <;> unfold Bc at hr <;> split at hr <;> rename_i hb <;> cases hr
 ·rw [Ac hb] at hst
  exact kn F5 hst fun w3 _ _ s4 => rP (y := (a, b) :: cs') rfl ⟨hl, hfew⟩ (SL.drop s4)
 rw [Ab hb] at hst
 refine kc F5 hst fun v3 w3 _ _ hv _ s4 F6 => ?_
 obtain rfl := hv
 clear H
 obtain ⟨x, hx, H3⟩ := bind_ok H2
 obtain ⟨l2, hcut, H4⟩ := bind_ok H3
 clear H2 H3
 cases H4
 refine zw F6 fun _ F6 => ?_
 have s5 := SL.mop (SL.comm s4) hc
 obtain ⟨ad2, hI, hE⟩ := Gm DY s5 m1 FZ rfl hx
 have hC := fun w (hw : SL w0 F0 w (Ae g1 122 [.int .i64 0, .int .i64 0] :: loc ++ mS K vc vt ((a, b) :: cs') S)) => SL.GR hw hc hl' hT
 refine BH (fun w_ => SL w0 F0 w_ (Ae g1 122 [.int .i64 0, .int .i64 0] :: loc ++ mS K vc vt ((a, b) :: cs') S)) [] Cn ?_
 refine Ce [0, 1, 2, 3, 4, 5, 6, 7, 8, 9, 10, 11] F6 (Bl rfl) s4.drew (QI.ev 2 rfl <| QI.fl FI Gs hC rfl rfl rfl rfl rfl rfl <| QI.ev 2 rfl <| QI.fl FI Gs hC rfl rfl rfl rfl rfl rfl <|
  QI.op rfl (fun w hw => Ao rfl underlying104 ⟨A1, k1, e1⟩) rfl <| QI.ev 1 rfl <| QI.ix hI rfl <| QI.op rfl (fun w hw => Be Ld rfl (SL.GT DY (SL.mop (SL.comm hw) hc) m1 hE hx) rfl) rfl <| QI.nil) fun _ F7 => ?_
 refine BN 12 rfl (An F7 s4.drew Cm rfl rfl fun g2 w4 _ F8 s6 => A8 ⟨fun _ => SL.drop s6, ?_⟩)
 refine BN 13 rfl (A9 (ds := [.int .i64 x.kind, .int .i64 x.n]) F8 s6 rfl rfl Eg (List.all_eq_true.1 rfl) rfl fun w5 _ F9 s7 => A8 ⟨fun _ => SL.drop s7, BE ?_⟩)
 refine ze F9 fun _ F10 => ?_
 obtain ⟨v', hSc, s8⟩ := SL.Qg (SL.mop (SL.comm (qs := Ae g2 122 [.int .i64 x.kind, .int .i64 x.n] :: Ae g1 122 [.int .i64 0, .int .i64 0] :: loc) s7) hc).f1 FZ rfl hcut none (some (wr ((c.stack.length : Int) - 1))) (.inr ⟨rfl, rfl⟩) (.inl rfl)
 have hC2 : ∀ w, SL w0 F0 w (Sl BP v' l2 :: Sl BP a.v c.vars :: Fo (HU cs' r) :: Ae K.g 99 (IE K vc vt S) :: Sl T_craw vc ((Bb cs' r).reverse ++ [⟨c.fn, c.at_, a, b⟩]) :: Sl (Ty.int .i64) vt S.told :: Oj K S :: Ae g2 122 [.int .i64 x.kind, .int .i64 x.n] :: Ae g1 122 [.int .i64 0, .int .i64 0] :: loc) → Cells w ad [.int .i64 c.fn, .int .i64 c.at_, a.v, b.v] := fun w hw => SL.GT G4 hw m4 hT (Hv hl' ⟨c.fn, c.at_, a, b⟩)
 have hone := Aj (s8.form m0)
 refine BH _ [14] Cn (Ce [0, 1, 2, 3, 4, 5, 6, 7, 8, 9, 10, 11] F10 (Bl rfl) s8.drew (QI.ev 3 rfl <| QI.fl FI Gs hC2 rfl rfl rfl rfl rfl rfl <| QI.ev 2 rfl <| QI.fl FI Gs hC2 rfl rfl rfl rfl rfl rfl <|
  QI.op rfl (fun w hw => Ao rfl underlying104 ⟨A1, k1, e1⟩) rfl <| QI.ev 1 rfl <| QI.op rfl (fun w hw => hSc _ _ _ _ _ .i64 .i64 _ _ _ _ _ rfl trivial rfl) rfl <| QI.nil) fun _ F11 => ?_)
 refine Fw 12 rfl F11 s8.drew fun _ F11 => ?_
 refine QW 13 rfl F11 s8.drew (Di FI rfl) fun _ F11 => ?_
 refine BN 14 rfl (J8 G4 (y' := ⟨c.fn, c.at_, a, ⟨v', hone⟩⟩) F11 s8.drew.f4 hT (Hv hl' _) rfl rfl (AG (s8.form m0)) UJ rfl (by simpa using hone) rfl fun w6 _ F12 s9 => A8 ⟨fun h => by simp [Et] at h, BE ?_⟩)
 rw [KD hl'] at s9
 refine ze F12 fun _ F13 => ?_
 refine AE F13 s9 m7 fun _ F14 => ?_
 refine A9 (ds := [.int .i64 x.kind, .int .i64 x.n]) F14 s9.f8 rfl rfl Eg (List.all_eq_true.1 rfl) rfl fun w7 _ F15 s10 => ?_
 refine zw F15 fun _ F16 => ?_
 exact Wo (y := (a, ⟨v', hone⟩) :: cs') F16 rfl ⟨by simp [hl'], J0 hfew (by simp [hc])⟩ s10 m0 Ld rfl rfl (SL.comm (SL.Mh (c := ⟨c.fn, c.at_, c.vars, l2⟩) (r := r) s10.drop.f7.drop.f4.f4.f3.f4 rfl))
end
end Go.Proofs.YtpnacdckamiedaaGreat
namespace Go.Proofs.YtpnacdckamiedaaGreat
open Go Go.RowKit Go.Pv Go.Proofs.Tryz
section
variable {w : World} {K : MK} {vc vt : Value} {cs : Lay} {S : MS} {w0 : World} {F0 : List Nat} {loc ps : List Ck}
theorem Ex {nn : Int} (s0 : SL w0 F0 w ps) : Calls prog 74 #[.int .i64 nn] w (Tn (Kw 152 nn 0) fun w_ => SL w0 F0 w_ ps) := by
 letI := Co
 refine C9 func74 ntmps74 fun _ F1 => ?_
 refine zx F1 (AP (vs := [.int .i64 152, .int .i64 nn]) JZ PT rfl (cs := [.int .i64 152, .int .i64 nn, .int .i64 0]) (by rfl)) fun _ F4 => ?_
 refine zx F4 (I5 rfl underlying97 (fun _ h => by cases h)) fun _ F5 => ?_
 exact Jz F5 rfl (Br rfl F5 ⟨rfl, s0⟩)
theorem LH {is : Bool} {p : Re Unit × MS} (s0 : SL w0 F0 w (loc ++ mS K vc vt cs S)) (hL : B1 S cs) (H : Lc is S = some p) :
  Calls prog 106 #[jP K.g, .bool is] w (C0 p.1 (fun _ v => v = .tuple #[]) (B1 p.2) (fun cs => loc ++ mS K vc vt cs p.2) w0 F0) := by
 letI := Co
 unfold Lc at H
 cases is with
 | true =>
  refine C9 func106 ntmps106 fun _ F1 => ?_
  refine zt F1 rfl fun _ F1 => ?_
  have hc := C5 s0 hL H
  obtain ⟨r, S1⟩ := p
  cases r with
  | ok x =>
   refine kc F1 hc fun v w1 _ y hv hC s1 F2 => ?_
   refine zw F2 fun _ F3 => ?_
   exact rN F3 rfl rfl hC s1
  | no e t q => exact kn F1 hc fun w1 y hC s1 => rP rfl hC s1
 | false =>
  refine C9 func106 ntmps106 fun _ F1 => ?_
  refine zf F1 rfl fun _ F1 => ?_
  have hc := C5 s0 hL H
  obtain ⟨r, S1⟩ := p
  cases r with
  | ok x =>
   refine kc F1 hc fun v w1 _ y hv hC s1 F2 => ?_
   refine zw F2 fun _ F3 => ?_
   exact rN F3 rfl rfl hC s1
  | no e t q => exact kn F1 hc fun w1 y hC s1 => rP rfl hC s1
theorem Nn {p : Re MV × MS} (s0 : SL w0 F0 w (loc ++ mS K vc vt cs S)) (hL : B1 S cs) (H : Ic S = some p) :
  Calls prog 105 #[jP K.g] w (C0 p.1 (fun x v => v = PQ x) (B1 p.2) (fun cs => loc ++ mS K vc vt cs p.2) w0 F0) := by
 letI := Co
 unfold Ic at H
 refine C9 func105 ntmps105 fun _ F1 => ?_
 refine An F1 s0 Cm rfl rfl fun g1 w1 _ F2 s1 => ?_
 refine zw F2 fun _ F2 => ?_
 rcases AQ H with ⟨e, t, q, S1, hr, rfl⟩ | ⟨x, S1, hr, H2⟩ <;> have hc := Jd (loc := Ae g1 122 [.int .i64 0, .int .i64 0] :: loc) s1 hL hr
 ·exact kn F2 hc fun w3 y hC s4 => rP rfl hC (SL.drop s4)
 clear H
 refine kc F2 hc fun v3 w3 _ y hv hC s4 F6 => ?_
 obtain rfl := hv
 refine An F6 s4 Cm rfl rfl fun g2 w4 _ F7 s5 => ?_
 refine A9 (ds := [.int .i64 x.kind, .int .i64 x.n]) F7 s5 rfl rfl Eg (List.all_eq_true.1 rfl) rfl fun w5 _ F8 s6 => ?_
 refine zw F8 fun _ F9 => ?_
 refine AE F9 s6 m0 fun _ F10 => ?_
 have hst := Dm (loc := Ae g2 122 [.int .i64 x.kind, .int .i64 x.n] :: Ae g1 122 [.int .i64 0, .int .i64 0] :: loc) (x.kind == 3) s6
 rcases AQ H2 with ⟨e, t, q, S2, hr, rfl⟩ | ⟨_, S2, hr, H3⟩ <;> unfold Bc at hr <;> split at hr <;> rename_i hb <;> cases hr
 ·rw [Ac hb] at hst
  exact kn F10 hst fun w3 _ _ s4 => rP (y := y) rfl hC (SL.drop (SL.drop s4))
 rw [Ab hb] at hst
 cases H3
 refine kc F10 hst fun v3 w6 _ _ hv _ s7 F11 => ?_
 refine zw F11 fun _ F12 => ?_
 refine AE F12 s7 m0 fun _ F13 => ?_
 refine A9 (ds := [.int .i64 x.kind, .int .i64 x.n]) F13 (SL.f1 s7) rfl rfl Eg (List.all_eq_true.1 rfl) rfl fun w7 _ F15 s10 => ?_
 refine zw F15 fun _ F16 => ?_
 exact Wo (y := y) F16 rfl hC s10 m0 Ld rfl rfl (SL.drop (SL.drop s10))
theorem JY {x : MV} {p : Re Int × MS} (s0 : SL w0 F0 w (loc ++ mS K vc vt cs S)) (H : Gu x S = some p) :
  Calls prog 109 #[PQ x] w (C0 p.1 (fun x v => v = .int .i64 x) (fun _ : Unit => p.2 = S) (fun _ => loc ++ mS K vc vt cs S) w0 F0) := by
 letI := Co
 unfold Gu at H
 refine C9 func109 ntmps109 fun _ F1 => ?_
 refine Bz F1 s0 rfl rfl rfl fun g1 w1 _ F2 s1 => ?_
 refine zw F2 fun _ F3 => ?_
 refine AE F3 s1 m0 fun _ F4 => ?_
 split at H <;> rename_i hb
 ·cases H
  refine zt F4 hb fun _ F5 => ?_
  exact Hn F5 (Ex s1) fun w2 s2 => Br rfl F5 (rP (y := ()) rfl rfl (SL.drop s2))
 ·cases H
  refine zf F4 (Bool.eq_false_iff.2 hb) fun _ F5 => ?_
  refine AE F5 s1 m0 fun _ F6 => ?_
  exact rE (y := ()) F6 rfl rfl rfl (SL.drop s1)
end
end Go.Proofs.YtpnacdckamiedaaGreat
namespace Go.Proofs.YtpnacdckamiedaaGreat
open Go Go.RowKit Go.Pv Go.Proofs.Tryz
theorem Aw.perm {ps qs : List Ck} (h : ps.Perm qs) : ∀ {w : World} {F : List Nat}, Aw ps w F → ∃ F', Aw qs w F' ∧ ∀ k, k ∈ F' ↔ k ∈ F := by
 induction h with
 | nil => exact fun h => ⟨_, h, fun _ => Iff.rfl⟩
 | cons x _ ih => exact fun h => Aw.I0 (fun F hF => ih hF) h
 | swap x y l => exact fun h => Aw.swap h
 | trans _ _ ih1 ih2 =>
  intro w F h
  obtain ⟨F1, h1, e1⟩ := ih1 h
  obtain ⟨F2, h2, e2⟩ := ih2 h1
  exact ⟨F2, h2, fun k => (e2 k).trans (e1 k)⟩
theorem SL.perm {w0 w : World} {F0 : List Nat} {ps qs : List Ck} (hs : SL w0 F0 w ps) (h : ps.Perm qs) : SL w0 F0 w qs := hs.re fun F hF => Aw.perm h hF
theorem Q4 : ∀ {os : List (Nat × Cq)} {l : List MO} {i : Nat} {g : Nat} {v : Cq} {o : MO}, os[i]? = some (g, v) → l[i]? = some o → ∃ A B, (∀ o', Ho os (l.set i o') = A ++ Ae g 210 [.int .i64 o'.cls, v.v] :: Sl (Ty.int .i64) v.v o'.nums :: B)
 | [], _, _, _, _, _, h, _ => by cases h
 | _ :: _, [], _, _, _, _, _, h => by cases h
 | (g0, v0) :: os, o0 :: l, 0, g, v, o, h, h2 => by cases h; exact ⟨[], Ho os l, fun o' => rfl⟩
 | (g0, v0) :: os, o0 :: l, i + 1, g, v, o, h, h2 => by
  obtain ⟨A, B, h3⟩ := Q4 (os := os) (l := l) (i := i) (by simpa using h) (by simpa using h2)
  exact ⟨Ae g0 210 [.int .i64 o0.cls, v0.v] :: Sl (Ty.int .i64) v0.v o0.nums :: A, B, fun o' => by simp only [List.set_cons_succ, Ho, h3 o', List.cons_append]⟩
theorem OJ {α : Type} : ∀ {l : List α} {i : Nat} {x : α}, l[i]? = some x → l.set i x = l
 | [], _, _, h => by cases h
 | y :: l, 0, x, h => by cases h; rfl
 | y :: l, i + 1, x, h => by rw [List.set_cons_succ, OJ (by simpa using h)]
section
variable {w0 w : World} {F0 : List Nat} {ps A B : List Ck} {x y : Ck}
theorem OR : (A ++ x :: y :: B).Perm (x :: y :: (A ++ B)) := (List.perm_middle).trans ((List.perm_middle).cons _)
theorem SL.Xa (hs : SL w0 F0 w (Fo (A ++ x :: y :: B) :: ps)) : SL w0 F0 w (x :: y :: Fo (A ++ B) :: ps) := by
 have h1 : SL w0 F0 w (x :: y :: ((A ++ B) ++ ps)) := SL.perm (SL.Mi hs) ((OR).append_right ps)
 have h2 : SL w0 F0 w (((A ++ B) ++ ps) ++ [x, y]) := SL.comm (qs := [x, y]) h1
 rw [Y6] at h2
 exact SL.comm (qs := Fo (A ++ B) :: ps) (SL.J1 h2)
theorem SL.UT (hs : SL w0 F0 w (x :: y :: Fo (A ++ B) :: ps)) : SL w0 F0 w (Fo (A ++ x :: y :: B) :: ps) := by
 have h2 : SL w0 F0 w ((A ++ B) ++ (ps ++ [x, y])) := SL.Mi (SL.comm (qs := [x, y]) hs)
 rw [← Y6] at h2
 have h1 : SL w0 F0 w (x :: y :: ((A ++ B) ++ ps)) := SL.comm (ps := [x, y]) h2
 exact SL.J1 (SL.perm h1 ((OR).symm.append_right ps))
theorem SL.obj {os : List (Nat × Cq)} {l : List MO} {i : Nat} {g : Nat} {v : Cq} {o : MO} (h1 : os[i]? = some (g, v)) (h2 : l[i]? = some o) : ∃ L, (∀ {w : World} {ps : List Ck}, SL w0 F0 w (Fo (Ho os l) :: ps) → SL w0 F0 w (Ae g 210 [.int .i64 o.cls, v.v] :: Sl (Ty.int .i64) v.v o.nums :: Fo L :: ps)) ∧
  ∀ {w : World} {ps : List Ck} (o' : MO), SL w0 F0 w (Ae g 210 [.int .i64 o'.cls, v.v] :: Sl (Ty.int .i64) v.v o'.nums :: Fo L :: ps) → SL w0 F0 w (Fo (Ho os (l.set i o')) :: ps) := by
 obtain ⟨A, B, hr⟩ := Q4 h1 h2
 refine ⟨A ++ B, fun {w ps} hs => ?_, fun {w ps} o' hs => ?_⟩
 ·have e := hr o
  rw [OJ h2] at e
  rw [e] at hs
  exact SL.Xa hs
 ·rw [hr o']
  exact SL.UT hs
end
theorem Ou : ∀ {os : List (Nat × Cq)} {s i : Nat} {g : Nat} {v : Cq}, os[i]? = some (g, v) → Gq (refsOf s os) ((s + i : Nat) : Int) = some (some g)
 | [], _, _, _, _, h => by cases h
 | (g0, v0) :: os, s, 0, g, v, h => by cases h; simp [refsOf, Gq]
 | (g0, v0) :: os, s, i + 1, g, v, h => by
  have h3 := Ou (os := os) (s := s + 1) (i := i) (g := g) (v := v) (by simpa using h)
  unfold refsOf Gq
  rw [Ac (by show ¬ (((s + (i + 1) : Nat) : Int) = (s : Int)); omega)]
  rw [show s + (i + 1) = s + 1 + i by omega]
  exact h3
theorem OA : ∀ {os : List (Nat × Cq)} {s : Nat} {k : Int}, (k < s ∨ k ≥ s + os.length) → Gq (refsOf s os) k = none
 | [], _, _, h => rfl
 | (g0, v0) :: os, s, k, h => by
  unfold refsOf Gq
  simp only [Y5] at h
  rw [Ac (by show ¬ (k = (s : Int)); omega)]
  exact OA (by omega)
section
variable {w : World} {K : MK} {S : MS} {w0 : World} {F0 : List Nat} {ps : List Ck} {os : List (Nat × Cq)}
theorem Ry : Key prog 3 (Value.int .i64) := Key.int underlying3
theorem Se : (prog.info? 203).bind (·.zero) = some (JI none) := by kernel_rfl
theorem Kb (s0 : SL w0 F0 w (EH K S os ++ ps)) : Calls prog 89 #[jP K.gh] w (AN fun u w_ => u = .bool true ∧ SL w0 F0 w_ (EH K S os ++ ps)) := by
 letI := Co
 refine C9 func89 ntmps89 fun _ F1 => ?_
 refine zx F1 (L0 rfl rfl underlying94) fun _ F2 => ?_
 refine Bu F2 rfl rfl rfl (Ar (by kernel_rfl) rfl (s0.Aq m0 rfl)) rfl rfl fun _ F3 => ?_
 refine Bu F3 rfl rfl rfl (RZ rfl rfl underlying150) rfl rfl fun _ F4 => ?_
 refine zw F4 fun _ F5 => ?_
 exact rt F5 ⟨rfl, s0⟩
theorem VD {ref : Int} (s0 : SL w0 F0 w (EH K S os ++ ps)) (h : ref < 1 ∨ ref ≥ 1 + os.length) : Calls prog 136 #[jP K.gh, .int .i64 ref] w (AN fun u w_ => (∃ e, u = .tuple ⟨[.pointer none, .iface 30 e]⟩) ∧ SL w0 F0 w_ (EH K S os ++ ps)) := by
 letI := Co
 refine C9 func136 ntmps136 fun _ F1 => ?_
 refine AU F1 (Kb s0) fun v1 w1 _ hS F2 => ?_
 obtain ⟨rfl, s1⟩ := hS
 refine zw F2 fun _ F2 => ?_
 refine zf F2 rfl fun _ F2 => ?_
 rcases hb : (ref == 0) with _ | _
 ·refine zf F2 hb fun _ F3 => ?_
  refine AE F3 s1 m0 fun _ F4 => ?_
  have hm : Gq (refsOf 1 os) ref = none := OA (by omega)
  refine zx F4 ((Lq s1 m1 underlying150 Ry Se (k := ref) rfl rfl).MP (u := .pointer none) (by rw [hm]; rfl)) fun _ F5 => ?_
  refine zx F5 (Jf rfl rfl underlying203) fun _ F6 => ?_
  refine zt F6 rfl fun _ F7 => ?_
  refine zx F7 (I5 rfl underlying30 (fun _ h => by cases h)) fun _ F8 => ?_
  exact rt F8 ⟨⟨_, rfl⟩, s1⟩
 ·refine zt F2 hb fun _ F3 => ?_
  refine zx F3 (I5 rfl underlying30 (fun _ h => by cases h)) fun _ F4 => ?_
  exact rt F4 ⟨⟨_, rfl⟩, s1⟩
theorem find_ok {ref : Int} {g : Nat} (s0 : SL w0 F0 w (EH K S os ++ ps)) (h0 : (ref == 0) = false) (hm : Gq (refsOf 1 os) ref = some (some g)) : Calls prog 136 #[jP K.gh, .int .i64 ref] w (AN fun u w_ => u = .tuple ⟨[jP g, .nilIface]⟩ ∧ SL w0 F0 w_ (EH K S os ++ ps)) := by
 letI := Co
 refine C9 func136 ntmps136 fun _ F1 => ?_
 refine AU F1 (Kb s0) fun v1 w1 _ hS F2 => ?_
 obtain ⟨rfl, s1⟩ := hS
 refine zw F2 fun _ F2 => ?_
 refine zf F2 rfl fun _ F2 => ?_
 refine zf F2 h0 fun _ F3 => ?_
 refine AE F3 s1 m0 fun _ F4 => ?_
 refine zx F4 ((Lq s1 m1 underlying150 Ry Se (k := ref) rfl rfl).MP (u := jP g) (by rw [hm]; rfl)) fun _ F5 => ?_
 refine zx F5 (J7 rfl rfl underlying203) fun _ F6 => ?_
 refine zf F6 rfl fun _ F7 => ?_
 refine AE F7 s1 m0 fun _ F8 => ?_
 refine zx F8 ((Lq s1 m1 underlying150 Ry Se (k := ref) rfl rfl).MP (u := jP g) (by rw [hm]; rfl)) fun _ F9 => ?_
 exact rt F9 ⟨rfl, s1⟩
theorem Nz {ref : Int} {o : MO} (hl : os.length = S.A4.length) (h : idx S.A4 (ref - 1) = some o) : ∃ g v, os[(ref - 1).toNat]? = some (g, v) ∧ S.A4[(ref - 1).toNat]? = some o ∧ (ref == 0) = false ∧ Gq (refsOf 1 os) ref = some (some g) := by
 obtain ⟨h0, h1, h2⟩ := DT h
 have h3 : (ref - 1).toNat < os.length := by omega
 have h4 := Yz h3
 refine ⟨_, _, h4, h2, by rw [beq_eq_false_iff_ne]; omega, ?_⟩
 have h5 := Ou (s := 1) h4
 rw [show ((1 + (ref - 1).toNat : Nat) : Int) = ref by omega] at h5
 exact h5
theorem WX {ref : Int} (hl : os.length = S.A4.length) (h : idx S.A4 (ref - 1) = none) : ref < 1 ∨ ref ≥ 1 + os.length := by
 unfold idx at h
 split at h
 ·rw [List.getElem?_eq_none_iff] at h; omega
 ·omega
end
end Go.Proofs.YtpnacdckamiedaaGreat
namespace Go.Proofs.YtpnacdckamiedaaGreat
open Go Go.RowKit Go.Pv Go.Proofs.Tryz
section
variable {P : Program} {w : World} {m : CL} {dd : Option Tmp} {ty : TypeId} {pos : String} {aft : Array Edge} {x : Operand} {gd : Option (Nat × Bool)}
theorem Tj {t u tv : TypeId} {v : Value} {ms : Array (String × TypeId)} (hx : ev m x = some (.iface tv v)) (hp : P.underlying t = some (.interface ms)) : EX P w m ⟨dd, .binOp .neq t x (.const .nilIface) u, ty, pos, aft, gd⟩ (.bool true) w := fun a n hF => by
 have h := hF.eval hx
 simp only [execOp, h]
 have : (Op.equal t (.iface tv v) .nilIface).run P w = .ok false w := G6 fun d => by simp [Op.equalIn, run_underlying hp]
 simp [eqGuard, Act.eval, binOp, this]
end
section
variable {w : World} {K : MK} {S : MS} {w0 : World} {F0 : List Nat} {ps : List Ck} {os : List (Nat × Cq)}
theorem add_zero' (a : Addr) : a.add 0 = a := by unfold Addr.add; split <;> simp_all
theorem Kt : Dy prog 27 3 1 8 (Gb 1) = true := by kernel_rfl
theorem W7 {ref : Int} (s0 : SL w0 F0 w (EH K S os ++ ps)) (hl : os.length = S.A4.length) : Calls prog 135 #[jP K.gh, .int .i64 ref] w (AN fun u w_ => u = .tuple ⟨[.int .i64 (Jr S ref).1, .bool (Jr S ref).2]⟩ ∧ SL w0 F0 w_ (EH K S os ++ ps)) := by
 letI := Co
 refine C9 func135 ntmps135 fun _ F1 => ?_
 unfold Jr
 split
 ·rename_i hx
  refine AU F1 (VD s0 (WX hl hx)) fun v1 w1 _ hS F2 => ?_
  obtain ⟨⟨e, rfl⟩, s1⟩ := hS
  refine zw F2 fun _ F3 => ?_
  refine zx F3 (Tj rfl underlying205) fun _ F4 => ?_
  refine zt F4 rfl fun _ F5 => ?_
  exact rt F5 ⟨rfl, s1⟩
 ·rename_i o hx
  obtain ⟨g, v, h1, h2, h0, hm⟩ := Nz hl hx
  refine AU F1 (find_ok s0 h0 hm) fun v1 w1 _ hS F2 => ?_
  obtain ⟨rfl, s1⟩ := hS
  obtain ⟨L, hop, hcl⟩ := SL.obj (w0 := w0) (F0 := F0) h1 h2
  have s2 := hop s1.f2
  refine zw F2 fun _ F3 => ?_
  refine zx F3 (Lb rfl underlying205) fun _ F4 => ?_
  refine Bu F4 rfl rfl rfl (Ar D1 rfl (s2.Aq m0 (o := 0) rfl)) rfl rfl fun _ F5 => ?_
  refine zw F5 fun _ F6 => ?_
  rcases hb : decide (o.cls < 0) with _ | _
  ·refine zf F6 hb fun _ F7 => ?_
   refine AE F7 s2 m0 fun _ F8 => ?_
   exact rt F8 ⟨rfl, s1⟩
  ·refine zt F6 hb fun _ F7 => ?_
   exact rt F7 ⟨rfl, s1⟩
theorem Rw {ref i : Int} {g : Nat} {v : Cq} {o : MO} (s0 : SL w0 F0 w (EH K S os ++ ps)) (h1 : os[(ref - 1).toNat]? = some (g, v)) (h2 : S.A4[(ref - 1).toNat]? = some o) (h0 : (ref == 0) = false) (hm : Gq (refsOf 1 os) ref = some (some g)) :
  Calls prog 133 #[jP K.gh, .int .i64 ref, .int .i64 i] w (AN fun u w_ => ((decide (i < 0) = true ∨ decide (i ≥ (o.nums.length : Int)) = true) ∧ u = .tuple ⟨[.pointer none, .int .i64 142]⟩ ∨ decide (i < 0) = false ∧ decide (i ≥ (o.nums.length : Int)) = false ∧ ∃ ad, u = .tuple ⟨[.pointer (some ad), .int .i64 0]⟩ ∧ Lf (Ty.int .i64).sz v.v i ad) ∧ SL w0 F0 w_ (EH K S os ++ ps)) := by
 letI := Co
 refine C9 func133 ntmps133 fun _ F1 => ?_
 refine AU F1 (find_ok s0 h0 hm) fun v1 w1 _ hS F2 => ?_
 obtain ⟨rfl, s1⟩ := hS
 obtain ⟨L, hop, hcl⟩ := SL.obj (w0 := w0) (F0 := F0) h1 h2
 have s2 := hop s1.f2
 refine zw F2 fun _ F3 => ?_
 refine zx F3 (Lb rfl underlying205) fun _ F4 => ?_
 refine Wq 5 F4 rfl fun _ F4 => ?_
 obtain ⟨A, kc, hv⟩ := s2.form m1
 rcases hb : decide (i < 0) with _ | _
 ·have F5 := F4.kf (d := 24) hb
  refine zw F5 fun _ F5 => ?_
  refine Bu F5 rfl rfl rfl (Ar (by kernel_rfl) rfl (s2.Aq m0 (o := 1) rfl)) rfl rfl fun _ F6 => ?_
  refine Bu F6 rfl rfl rfl (Ao rfl underlying27 ⟨A, kc, hv⟩) rfl rfl fun _ F7 => ?_
  refine zw F7 fun _ F8 => ?_
  rcases hb2 : decide (i ≥ (o.nums.length : Int)) with _ | _
  ·refine zf F8 hb2 fun _ F9 => ?_
   refine AE F9 s2 m0 fun _ F10 => ?_
   simp only [decide_eq_false_iff_not] at hb hb2
   have hx : ∃ x, idx o.nums i = some x := ⟨o.nums[i.toNat]'(by omega), by unfold idx; rw [Ab (by omega), Yz (by omega)]⟩
   obtain ⟨x, hx⟩ := hx
   obtain ⟨ad, hI, hE⟩ := Gm (Flat.int .i64) s2 m1 Kt rfl hx
   refine zx F10 (hI _ _ _ _ _ _ _ _ _ _ rfl rfl) fun _ F11 => ?_
   exact rt F11 ⟨.inr ⟨rfl, rfl, ad, rfl, hE⟩, s1⟩
  ·refine zt F8 hb2 fun _ F9 => ?_
   exact rt F9 ⟨.inl ⟨.inr rfl, rfl⟩, s1⟩
 ·have F5 := F4.kt (d := 24) hb
  refine zw F5 fun _ F5 => ?_
  refine zt F5 rfl fun _ F6 => ?_
  exact rt F6 ⟨.inl ⟨.inl rfl, rfl⟩, s1⟩
theorem WP {ref i : Int} {p : Int × Int} (s0 : SL w0 F0 w (EH K S os ++ ps)) (hl : os.length = S.A4.length) (H : M5 S ref i = some p) :
  Calls prog 108 #[jP K.gh, .int .i64 ref, .int .i64 i] w (AN fun u w_ => u = .tuple ⟨[.int .i64 p.1, .int .i64 p.2]⟩ ∧ SL w0 F0 w_ (EH K S os ++ ps)) := by
 letI := Co
 unfold M5 at H
 obtain ⟨o, hx, H1⟩ := bind_ok H
 clear H
 obtain ⟨g, v, h1, h2, h0, hm⟩ := Nz hl hx
 refine C9 func108 ntmps108 fun _ F1 => ?_
 refine AU F1 (Rw s0 h1 h2 h0 hm) fun v1 w1 _ hS F2 => ?_
 obtain ⟨⟨hb, rfl⟩ | ⟨hb, hb2, ad, rfl, hE⟩, s1⟩ := hS
 ·refine zw F2 fun _ F3 => ?_
  refine zt F3 rfl fun _ F4 => ?_
  have : p = (0, 142) := by
   rcases hb with hb | hb
   ·rw [Ab hb] at H1; cases H1; rfl
   ·rw [Ab hb] at H1; split at H1 <;> (cases H1; rfl)
  subst this
  exact rt F4 ⟨rfl, s1⟩
 ·rw [Ac (by rw [hb]; simp), Ac (by rw [hb2]; simp)] at H1
  obtain ⟨x, hxx, H2⟩ := bind_ok H1
  cases H2
  obtain ⟨L, hop, hcl⟩ := SL.obj (w0 := w0) (F0 := F0) h1 h2
  have s2 := hop s1.f2
  refine zw F2 fun _ F3 => ?_
  refine zf F3 rfl fun _ F4 => ?_
  have hc := SL.GT (Flat.int .i64) s2 m1 hE hxx
  refine zx F4 (Ar D1 rfl (by have := hc 0 _ rfl; rwa [add_zero'] at this)) fun _ F5 => ?_
  exact rt F5 ⟨rfl, s1⟩
theorem WL {ref i v0 : Int} {p : Int × MS} (s0 : SL w0 F0 w (EH K S os ++ ps)) (hl : os.length = S.A4.length) (H : FU S ref i v0 = some p) :
  Calls prog 111 #[jP K.gh, .int .i64 ref, .int .i64 i, .int .i64 v0] w (AN fun u w_ => u = .int .i64 p.1 ∧ SL w0 F0 w_ (EH K p.2 os ++ ps)) := by
 letI := Co
 unfold FU at H
 obtain ⟨o, hx, H1⟩ := bind_ok H
 clear H
 obtain ⟨g, v, h1, h2, h0, hm⟩ := Nz hl hx
 refine C9 func111 ntmps111 fun _ F1 => ?_
 refine AU F1 (Rw s0 h1 h2 h0 hm) fun v1 w1 _ hS F2 => ?_
 obtain ⟨⟨hb, rfl⟩ | ⟨hb, hb2, ad, rfl, hE⟩, s1⟩ := hS
 ·refine zw F2 fun _ F3 => ?_
  refine zt F3 rfl fun _ F4 => ?_
  have : p = (142, S) := by
   rcases hb with hb | hb
   ·rw [Ab hb] at H1; cases H1; rfl
   ·rw [Ab hb] at H1; split at H1 <;> (cases H1; rfl)
  subst this
  exact rt F4 ⟨rfl, s1⟩
 ·rw [Ac (by rw [hb]; simp), Ac (by rw [hb2]; simp)] at H1
  refine zw F2 fun _ F3 => ?_
  refine Wq 5 F3 rfl fun _ F4 => ?_
  rcases hb3 : decide (v0 < -2147483648) with _ | _
  ·rw [Ac (by rw [hb3]; simp)] at H1
   have F5 := F4.kf (d := 25) hb3
   refine zw F5 fun _ F6 => ?_
   rcases hb4 : decide (v0 > 2147483647) with _ | _
   ·rw [Ac (by rw [hb4]; simp)] at H1
    obtain ⟨x, hxx, H2⟩ := bind_ok H1
    cases H2
    refine zf F6 hb4 fun _ F7 => ?_
    obtain ⟨L, hop, hcl⟩ := SL.obj (w0 := w0) (F0 := F0) h1 h2
    have s2 := (hop s1.f2).f1
    refine MM (Flat.int .i64) (y' := v0) F7 s2 hE hxx rfl rfl rfl (by kernel_rfl) fun w2 _ F8 s3 => ?_
    refine zw F8 fun _ F9 => ?_
    have s4 := hcl ⟨o.cls, o.nums.set i.toNat v0⟩ s3.f1
    refine rt F9 ⟨rfl, ?_⟩
    have s5 := s4.f2.f2
    show SL w0 F0 w2 (Ae K.gh 152 [K.vhc, .int .i64 S.room, .int .i64 S.used, .int .i64 ((S.A4.set (ref - 1).toNat ⟨o.cls, o.nums.set i.toNat v0⟩).length : Int), .map (some K.gm)] :: _)
    rw [List.length_set]
    exact s5
   ·rw [Ab hb4] at H1
    cases H1
    refine zt F6 hb4 fun _ F7 => ?_
    exact rt F7 ⟨rfl, s1⟩
  ·rw [Ab hb3] at H1
   cases H1
   have F5 := F4.kt (d := 25) hb3
   refine zw F5 fun _ F6 => ?_
   refine zt F6 rfl fun _ F7 => ?_
   exact rt F7 ⟨rfl, s1⟩
theorem Ww {ref : Int} {p : Int × Int} (s0 : SL w0 F0 w (EH K S os ++ ps)) (hl : os.length = S.A4.length) (H : BU S ref = some p) :
  Calls prog 116 #[jP K.gh, .int .i64 ref] w (AN fun u w_ => u = .tuple ⟨[.int .i64 p.1, .int .i64 p.2]⟩ ∧ SL w0 F0 w_ (EH K S os ++ ps)) := by
 letI := Co
 unfold BU at H
 obtain ⟨o, hx, H1⟩ := bind_ok H
 cases H1
 obtain ⟨g, v, h1, h2, h0, hm⟩ := Nz hl hx
 refine C9 func116 ntmps116 fun _ F1 => ?_
 refine AU F1 (find_ok s0 h0 hm) fun v1 w1 _ hS F2 => ?_
 obtain ⟨rfl, s1⟩ := hS
 obtain ⟨L, hop, hcl⟩ := SL.obj (w0 := w0) (F0 := F0) h1 h2
 have s2 := hop s1.f2
 obtain ⟨A, kc, hv⟩ := s2.form m1
 refine zw F2 fun _ F3 => ?_
 refine zx F3 (Lb rfl underlying205) fun _ F4 => ?_
 refine zf F4 rfl fun _ F5 => ?_
 refine AE F5 s2 m0 fun _ F6 => ?_
 refine zx F6 (Ao rfl underlying27 ⟨A, kc, hv⟩) fun _ F7 => ?_
 exact rt F7 ⟨rfl, s1⟩
theorem V8 (s0 : SL w0 F0 w (EH K S os ++ ps)) : Calls prog 57 #[jP K.gh] w (AN fun u w_ => u = .int .i64 S.used ∧ SL w0 F0 w_ (EH K S os ++ ps)) := by
 letI := Co
 refine C9 func57 ntmps57 fun _ F1 => ?_
 refine AU F1 (Kb s0) fun v1 w1 _ hS F2 => ?_
 obtain ⟨rfl, s1⟩ := hS
 refine zw F2 fun _ F2 => ?_
 refine zf F2 rfl fun _ F3 => ?_
 refine AE F3 s1 m0 fun _ F4 => ?_
 exact rt F4 ⟨rfl, s1⟩
end
end Go.Proofs.YtpnacdckamiedaaGreat
namespace Go.Proofs.YtpnacdckamiedaaGreat
open Go Go.RowKit Go.Pv Go.Proofs.Tryz
theorem Lm {w : World} {FF : List Nat} {g1 : Nat} {v1_0 : Value} {a0 : Int} {a1 : List Int} {r : Bool × (List Int)} (hst : Aw [Ae g1 27 [v1_0], Sl (Ty.int .i64) v1_0 a1] w FF)  (H : FT a0 a1 = some r) :
  Calls prog 142 #[.int .i64 a0, .pointer (some ⟨g1, 0, none⟩)] w (AN fun u_ w_ => ∃ u0 : Value, u_ = .bool r.1 ∧ SL w FF w_ [Ae g1 27 [u0], Sl (Ty.int .i64) u0 r.2]) := by
 have s0 : SL w FF w [Ae g1 27 [v1_0], Sl (Ty.int .i64) v1_0 a1] := SL.init w FF hst
 refine BV func142 ntmps142 7 rfl rfl rfl fun _ F2 => ?_
 unfold FT at H
 refine AA F2 s0 m0 1 rfl fun _ F25 => ?_
 refine EU (parts := [(0, .tmp 5)]) (Flat.int .i64) ([a0] : List Int) F25 s0 EL rfl (by decide) rfl rfl rfl (by simp [Value.cells]) rfl rfl rfl fun v26 w27 q28 F29 s30 => ?_
 obtain ⟨x32, hx33, H⟩ := bind_ok H
 obtain ⟨_, hr_⟩ := (s30.f2.Bm m1)
 refine Ba (Flat.int .i64) F29 s30.f2 EL rfl rfl rfl rfl hr_ rfl rfl hx33 rfl fun v34 w35 q36 F37 s38 => ?_
 have s38' := s38.f1.drop
 have s44 := s38'.f1
 refine AZ F37 s44 rfl rfl Vg (AG (fO s44 m1)) (Aj (fO s44 m1)) rfl fun w40 q41 F42 s43 => ?_
 cases H
 refine gw 8 F42 rfl fun _ F46 => ?_
 exact rt F46 ⟨v34, rfl, s43⟩
end Go.Proofs.YtpnacdckamiedaaGreat
namespace Go.Proofs.YtpnacdckamiedaaGreat
open Go Go.RowKit Go.Pv Go.Proofs.Tryz
theorem IU {w : World} {FF : List Nat} {g300 : Nat} {v0 v300_0 : Value} {a0 : List Ad} {a1 : Int} {a300 : List Int} {r : (List Int)} (hst : Aw [Ae g300 27 [v300_0], Sl (Ty.int .i64) v300_0 a300] w FF) (hr0 : Rd Ag w FF v0 a0) (H : BQ a0 a1 a300 = some r) :
  Calls prog 124 #[v0, .int .i64 a1, J2 142 [.pointer (some ⟨g300, 0, none⟩)]] w (AN fun u_ w_ => ∃ u0 : Value, u_ = .tuple ⟨[]⟩ ∧ SL w FF w_ [Ae g300 27 [u0], Sl (Ty.int .i64) u0 r]) := by
 have s0 : SL w FF w [Ae g300 27 [v300_0], Sl (Ty.int .i64) v300_0 a300] := SL.init w FF hst
 refine BV func124 ntmps124 0 rfl rfl rfl fun _ F0 => ?_
 unfold BQ at H
 obtain ⟨o875, H876, R877⟩ := bind_ok H
 clear H
 refine BB (fun a w_ => ∃ p878 : (List Int), o875 = .inr (p878) ∧ ∃ v879 : Value, Fr a 29 [] ∧ SL w FF w_ [Ae g300 27 [v879], Sl (Ty.int .i64) v879 p878]) ?_ ?_
 ·have H := H876
  refine gc 1 F0 rfl fun _ F0 => ?_
  refine Dk (Bq a0) (fun s881 a w_ => ∃ v1098 : Value, Fr a 29 [(0, v0), (1, .int .i64 s881.2), (2, J2 142 [.pointer (some ⟨g300, 0, none⟩)])] ∧ SL w FF w_ [Ae g300 27 [v1098], Sl (Ty.int .i64) v1098 s881.1]) H ?_ ?_
  ·exact ⟨v300_0, F0.sb, s0⟩
  ·intro s881 q1210 w1211 hI1212 o1209 H hr
   obtain ⟨v1098, F1207, s1208⟩ := hI1212
   replace H : Bq a0 s881 = some o1209 := H
   unfold Bq at H
   refine gc 6 F1207 rfl fun _ F1245 => ?_
   refine B2 9 F1245 H (fun hb1246 H F1247 => ?_) (fun hb1246 H F1247 => ?_)
   ·refine gw 2 F1247 rfl fun _ F1248 => ?_
    refine Ax F1248 rfl rfl ?_
    refine gx F1248 (Ao rfl underlying22 (fR hr0 s1208)) 3 rfl rfl fun _ F1251 => ?_
    refine B2 15 F1251 H (fun hb1252 H F1253 => ?_) (fun hb1252 H F1253 => ?_)
    ·obtain ⟨x1254, hx1255, H⟩ := bind_ok H
     refine gw 2 F1253 rfl fun _ F1256 => ?_
     refine Ax F1256 rfl rfl ?_
     obtain ⟨G1269, hst1265, hF1266, hG1267, hcl1268⟩ := SL.open_ (ps := [Ae g300 27 [v1098], Sl (Ty.int .i64) v1098 s881.1]) (rest := []) s1208.f1.f1
     refine Hw (args := [.tmp 17]) F1256 TQ rfl rfl (Lm (a0 := s881.2) (a1 := s881.1) hst1265   hx1255) rfl fun v1257 w1258 q1259 hS1261 F1260 => ?_
     obtain ⟨v1270, rfl, hq1263⟩ := hS1261
     have s1262 := hcl1268 _ _ hq1263
     refine gw 3 F1260 rfl fun _ F1272 => ?_
     refine AK F1272 H 5 4 rfl rfl rfl (fun hb1273 H _ F1274 => ?_) (fun hb1273 H _ F1274 => ?_)
     ·obtain ⟨x1291, hx1292, H⟩ := bind_ok H
      obtain ⟨ad1293, cs1296, G1297, hi1294, hc1295, hr1298, hG1299⟩ := Rd.idx hr0 BK rfl hx1292
      obtain ⟨v1300, rfl, hr1301⟩ := (BC hr1298 hG1299)
      replace hc1295 := hc1295 _ _ s1262
      refine gw 2 F1274 rfl fun _ F1302 => ?_
      refine gi F1302 hi1294 0 rfl fun _ F1303 => ?_
      refine gx F1303 (Di Ja rfl) 0 rfl rfl fun _ F1304 => ?_
      refine gx F1304 (Ar Gg rfl (Cells.at_ hc1295 (o := 1) rfl)) 11 rfl rfl fun _ F1312 => ?_
      refine AK F1312 H 6 7 rfl rfl rfl (fun hb1313 H _ F1314 => ?_) (fun hb1313 H _ F1315 => ?_)
      ·cases H
       obtain rfl := hr _ rfl
       replace H := R877
       try dsimp only at H
       cases H
       exact rt F1314 ⟨v1270, rfl, s1262⟩
      ·cases H
       exact ⟨_, rfl, v1270, F1315.sb, s1262⟩
     ·cases H
      obtain rfl := hr _ rfl
      exact ⟨_, rfl, v1270, F1274.sb, s1262⟩
    ·cases H
     obtain rfl := hr _ rfl
     refine gw 11 F1253 rfl fun _ F1316 => ?_
     exact ⟨_, rfl, v1098, F1316.sb, s1208⟩
   ·cases H
    obtain rfl := hr _ rfl
    refine gw 17 F1247 rfl fun _ F1317 => ?_
    exact ⟨_, rfl, v1098, F1317.sb, s1208⟩
 ·intro q1320 w1321 hJ
  obtain ⟨p878, rfl, v879, F1318, s1319⟩ := hJ
  have H := R877
  clear R877 H876
  try dsimp only at H
  cases H
  exact Kd F1318 (by rfl) ⟨_, rfl, ⟨v879, rfl, s1319⟩⟩
end Go.Proofs.YtpnacdckamiedaaGreat
namespace Go.Proofs.YtpnacdckamiedaaGreat
open Go Go.RowKit Go.Pv Go.Proofs.Tryz
theorem Kh {w : World} {v0 : Value} {a0 : List Ad} {a1 : Int} {r : (List Av)} (hr0 : Rd Ag w [] v0 a0) (H : De a0 a1 = some r) :
  Calls prog 132 #[v0, .int .i64 a1] w (AN fun u_ w_ => ∃ u0 : Value, u_ = u0 ∧ SL w [] w_ [Sl AW u0 r]) := by
 have s0 : SL w [] w [] := SL.Bf w
 refine BV func132 ntmps132 7 rfl rfl rfl fun _ F2 => ?_
 unfold De at H
 refine An F2 s0 T8 rfl rfl fun g9 w10 q11 F12 s13 => ?_
 obtain ⟨x34, hx35, H⟩ := bind_ok H
 refine gw 6 F12 rfl fun _ F36 => ?_
 refine gx F36 (HA (cs := [.tmp 5]) (vs := [.pointer (some ⟨g9, 0, none⟩)]) rfl) 0 rfl rfl fun _ F37 => ?_
 have s45 := (SL.BF (T := (Ty.int .i64)) s13).f1
 obtain ⟨G50, hst46, hF47, hG48, hcl49⟩ := SL.open_ (ps := [Ae g9 27 [.slice none 0 0], Sl (Ty.int .i64) (.slice none 0 0) []]) (rest := []) s45
 refine AU F37 (IU (a300 := []) hst46  (hr0.pass s45 hF47) hx35) fun v38 w39 _ hS42 F41 => ?_
 obtain ⟨v51, rfl, hq44⟩ := hS42
 have s43 := hcl49 _ _ hq44
 refine gw 10 F41 rfl fun _ F54 => ?_
 refine AA F54 s43 m0 0 rfl fun _ F1030 => ?_
 obtain ⟨o1671, H1672, R1673⟩ := bind_ok H
 clear H
 refine gx F1030 (Ao rfl underlying27 (fO s43 m1)) 4 rfl rfl fun _ F1032 => ?_
 refine BB (fun a w_ => ∃ v1674 : Value, Fr a 30 [(6, v1674)] ∧ SL w [] w_ [Sl (Ty.int .i64) v51 x34, Sl AW v1674 o1671]) ?_ ?_
 ·have H := H1672
  refine gc 1 F1032 rfl fun _ F1032 => ?_
  refine Dk (C4 a0 x34) (fun s1676 a w_ => ∃ v1835 : Value, Fr a 30 [(0, v0), (5, .pointer (some ⟨g9, 0, none⟩)), (6, v1835), (7, .int .i64 s1676.2)] ∧ SL w [] w_ [Ae g9 27 [v51], Sl (Ty.int .i64) v51 x34, Sl AW v1835 s1676.1]) H ?_ ?_
  ·exact ⟨(.slice none 0 0), F1032.sb, (SL.BF (T := AW) s43).f2.f2⟩
  ·intro s1676 q1917 w1918 hI1919 o1916 H hr
   obtain ⟨v1835, F1914, s1915⟩ := hI1919
   replace H : C4 a0 x34 s1676 = some o1916 := H
   unfold C4 at H
   refine gc 7 F1914 rfl fun _ F1925 => ?_
   refine AK F1925 H 5 4 rfl rfl rfl (fun hb1926 H _ F1927 => ?_) (fun hb1926 H _ F1927 => ?_)
   ·obtain ⟨x1961, hx1962, H⟩ := bind_ok H
    obtain ⟨ad1963, hi1964, he1965⟩ := Gm (Flat.int .i64) s1915 m1 EL rfl hx1962
    obtain ⟨x1966, hx1967, H⟩ := bind_ok H
    obtain ⟨ad1968, cs1971, G1972, hi1969, hc1970, hr1973, hG1974⟩ := Rd.idx hr0 BK rfl hx1967
    obtain ⟨v1975, rfl, hr1976⟩ := (BC hr1973 hG1974)
    replace hc1970 := hc1970 _ _ s1915
    obtain ⟨x1977, hx1978, H⟩ := bind_ok H
    refine gw 2 F1927 rfl fun _ F1979 => ?_
    refine AA F1979 s1915 m0 1 rfl fun _ F1981 => ?_
    refine gi F1981 hi1964 0 rfl fun _ F1982 => ?_
    refine gx F1982 (Ar Gg rfl (Cells.at_ (SL.GT (Flat.int .i64) s1915 m1 he1965 hx1962) (o := 0) rfl)) 0 rfl rfl fun _ F1983 => ?_
    refine gi F1983 hi1969 0 rfl fun _ F1984 => ?_
    refine gx F1984 (Di HT rfl) 0 rfl rfl fun _ F1985 => ?_
    refine gx F1985 (Ar IB rfl (Cells.at_ hc1970 (o := 2) rfl)) 0 rfl rfl fun _ F1986 => ?_
    obtain ⟨_, hr_⟩ := (CU hr1976 s1915.f2)
    refine Ba Cv F1986 s1915.f2 Fe rfl rfl rfl rfl hr_ rfl rfl hx1978 rfl fun v1987 w1988 q1989 F1990 s1991 => ?_
    cases H
    refine gw 9 F1990 rfl fun _ F1994 => ?_
    exact ⟨_, rfl, v1987, F1994.sb, s1991.f2.f2⟩
   ·cases H
    obtain rfl := hr _ rfl
    exact ⟨v1835, F1927.sb, s1915.drop⟩
 ·intro q1997 w1998 hJ
  obtain ⟨v1674, F1995, s1996⟩ := hJ
  have H := R1673
  clear R1673 H1672
  cases H
  refine ge 8 F1995 rfl fun _ F2000 => ?_
  exact rt F2000 ⟨v1674, rfl, s1996.drop⟩
end Go.Proofs.YtpnacdckamiedaaGreat
namespace Go.Proofs.YtpnacdckamiedaaGreat
open Go Go.RowKit Go.Pv Go.Proofs.Tryz
theorem Oo {g : Nat} {v : Cq} : ∀ {os : List (Nat × Cq)} {s : Nat}, FK (refsOf s os) ((s + os.length : Nat) : Int) (some g) = refsOf s (os ++ [(g, v)])
 | [], s => by simp [refsOf, FK]
 | (g0, v0) :: os, s => by
  simp only [refsOf, FK, List.cons_append, Y5]
  rw [Ac (by show ¬ (((s + (os.length + 1) : Nat) : Int) = (s : Int)); omega)]
  have h := Oo (g := g) (v := v) (os := os) (s := s + 1)
  rw [show s + 1 + os.length = s + (os.length + 1) by omega] at h
  rw [h]
theorem O8 {g : Nat} {v : Cq} {o : MO} : ∀ {os : List (Nat × Cq)} {l : List MO}, os.length = l.length → Ho (os ++ [(g, v)]) (l ++ [o]) = Ho os l ++ Ae g 210 [.int .i64 o.cls, v.v] :: Sl (Ty.int .i64) v.v o.nums :: []
 | [], [], _ => rfl
 | [], _ :: _, h => by cases h
 | _ :: _, [], h => by cases h
 | (g0, v0) :: os, o0 :: l, h => by simp only [Ho, List.cons_append]; rw [O8 (by simpa using h)]
theorem V4 : (prog.info? 210).bind (·.zero) = some (.agg ⟨[.int .i64 0, .slice none 0 0]⟩) := by kernel_rfl
theorem Xz : HH prog 210 [(0, 1), (1, 1)] = true := by kernel_rfl
theorem X3 : (prog.info? 3).bind (·.zero) = some (.int .i64 0) := by kernel_rfl
theorem ML : (prog.info? 3).map (·.size) = some 1 := by kernel_rfl
section
variable {w : World} {K : MK} {S : MS} {w0 : World} {F0 : List Nat} {ps : List Ck} {os : List (Nat × Cq)}
theorem TA {cls n : Int} {p : (Int × Int) × MS} (s0 : SL w0 F0 w (EH K S os ++ ps)) (hl : os.length = S.A4.length) (H : Ie S cls n = some p) :
  Calls prog 134 #[jP K.gh, .int .i64 cls, .int .i64 n] w (AN fun u w_ => ∃ os', os'.length = p.2.A4.length ∧ u = .tuple ⟨[.int .i64 p.1.1, .int .i64 p.1.2]⟩ ∧ SL w0 F0 w_ (EH K p.2 os' ++ ps)) := by
 letI := Co
 unfold Ie at H
 refine C9 func134 ntmps134 fun _ F1 => ?_
 refine N8 Cn s0 F1 (QR.ev 4 rfl <| QR.ld m0 rfl <| QR.ev 3 rfl <| QR.ld m0 rfl <| QR.ev 3 rfl <| QR.nil) fun w1 _ s1 F2 => ?_
 refine ze F2 fun _ F2 => ?_
 split at H <;> rename_i hb
 ·cases H
  refine zt F2 hb fun _ F3 => ?_
  exact rt F3 ⟨os, hl, rfl, s1⟩
 obtain ⟨l, hk, H1⟩ := bind_ok H
 clear H
 split at H1 <;> rename_i hw <;> cases H1
 refine zf F2 (Bool.eq_false_iff.2 hb) fun _ F3 => ?_
 refine AE F3 s1 m0 fun _ F4 => ?_
 refine AZ F4 s1 rfl rfl ML rfl rfl rfl fun w2 _ F5 s2 => ?_
 refine zw F5 fun _ F5 => ?_
 refine AE F5 s2 m0 fun _ F6 => ?_
 refine AZ F6 s2 rfl rfl ML rfl rfl rfl fun w3 _ F7 s3 => ?_
 refine zw F7 fun _ F8 => ?_
 refine BH _ [13] Cn (Ce [0, 1, 2, 3, 4, 5, 6, 7, 8, 9] F8 (Bl rfl) s3.drew (QI.ev 3 rfl <| QI.ld m0 rfl <| QI.ev 3 rfl <| QI.ld m0 rfl <| QI.ev 2 rfl <| QI.nil) fun _ F9 => ?_)
 refine BN 10 rfl (LY (Flat.int .i64) (0 : Int) F9 s3.drew Kt rfl rfl X3 rfl rfl rfl hk rfl fun v w4 _ F10 s4 => A8 ⟨fun _ => SL.drop s4, ?_⟩)
 have hone := Aj (s4.form m0)
 refine QW 11 rfl F10 (SL.drop s4) (AP (vs := [.int .i64 cls, v]) V4 Xz rfl (cs := [.int .i64 cls, v]) (Dc rfl rfl (by simp) (Dc rfl (AG (s4.form m0)) (by simp) CQ))) fun _ F11 => ?_
 refine BN 12 rfl (Bz F11 s4 rfl rfl rfl fun g w5 _ F12 s5 => A8 ⟨fun _ => SL.drop (SL.drop s5), ?_⟩)
 refine BN 13 rfl (SD (u := some g) (k := wr ((S.A4.length : Int) + 1)) F12 s5.f3 underlying150 Ry rfl rfl rfl fun w6 _ F13 s6 => A8 ⟨fun h => by simp [Et] at h, BE ?_⟩)
 refine ze F13 fun _ F14 => ?_
 refine AE F14 s6 m3 fun _ F15 => ?_
 have e1 : wr ((S.A4.length : Int) + 1) = ((1 + os.length : Nat) : Int) := by rw [eq_of_beq hw]; omega
 rw [e1, Oo (v := ⟨v, hone⟩)] at s6
 have s7 := s6.f4.f3.f3
 rw [← List.append_nil (Ho os S.A4)] at s7
 have s8 := SL.UT s7
 have e2 := O8 (g := g) (v := ⟨v, hone⟩) (o := ⟨cls, l⟩) hl
 refine rt F15 ⟨os ++ [(g, ⟨v, hone⟩)], by simp [hl], rfl, ?_⟩
 have e3 : wr ((S.A4.length : Int) + 1) = (((S.A4 ++ [(⟨cls, l⟩ : MO)]).length : Nat) : Int) := by rw [eq_of_beq hw]; simp
 show SL w0 F0 w6 (Ae K.gh 152 [K.vhc, .int .i64 S.room, .int .i64 (wr (S.used + wr (n + 1))), .int .i64 (((S.A4 ++ [(⟨cls, l⟩ : MO)]).length : Nat) : Int), .map (some K.gm)] :: Mp (Value.int .i64) JI K.gm (refsOf 1 (os ++ [(g, ⟨v, hone⟩)])) :: Fo (Ho (os ++ [(g, ⟨v, hone⟩)]) (S.A4 ++ [(⟨cls, l⟩ : MO)])) :: ps)
 rw [e2, ← e3]
 exact s8.f2.f2.f1
theorem WY {n : Int} {p : (Int × Int) × MS} (s0 : SL w0 F0 w (EH K S os ++ ps)) (hl : os.length = S.A4.length) (H : hrow S n = some p) :
  Calls prog 115 #[jP K.gh, .int .i64 n] w (AN fun u w_ => ∃ os', os'.length = p.2.A4.length ∧ u = .tuple ⟨[.int .i64 p.1.1, .int .i64 p.1.2]⟩ ∧ SL w0 F0 w_ (EH K p.2 os' ++ ps)) := by
 letI := Co
 unfold hrow at H
 refine C9 func115 ntmps115 fun _ F1 => ?_
 refine AU F1 (Kb s0) fun v1 w1 _ hS F2 => ?_
 obtain ⟨rfl, s1⟩ := hS
 refine zw F2 fun _ F2 => ?_
 refine zf F2 rfl fun _ F3 => ?_
 split at H <;> rename_i hb
 ·cases H
  refine zt F3 hb fun _ F4 => ?_
  exact rt F4 ⟨os, hl, rfl, s1⟩
 refine zf F3 (Bool.eq_false_iff.2 hb) fun _ F4 => ?_
 refine AU F4 (TA s1 hl H) fun v1 w1 _ hS F5 => ?_
 obtain ⟨os', hl', rfl, s2⟩ := hS
 refine zw F5 fun _ F6 => ?_
 exact rt F6 ⟨os', hl', rfl, s2⟩
theorem VX {cls : Int} {p : (Int × Int) × MS} (s0 : SL w0 F0 w (EH K S os ++ ps)) (hl : os.length = S.A4.length) (hI : Rd Ag w0 F0 K.vhc S.m.Classes) (H : Iz S cls = some p) :
  Calls prog 113 #[jP K.gh, .int .i64 cls] w (AN fun u w_ => ∃ os', os'.length = p.2.A4.length ∧ u = .tuple ⟨[.int .i64 p.1.1, .int .i64 p.1.2]⟩ ∧ SL w0 F0 w_ (EH K p.2 os' ++ ps)) := by
 letI := Co
 unfold Iz at H
 obtain ⟨A, kc, hv⟩ := fR hI s0
 refine C9 func113 ntmps113 fun _ F1 => ?_
 refine AU F1 (Kb s0) fun v1 w1 _ hS F2 => ?_
 obtain ⟨rfl, s1⟩ := hS
 refine zw F2 fun _ F2 => ?_
 refine Wq 5 F2 rfl fun _ F3 => ?_
 split at H <;> rename_i hb
 ·cases H
  refine zw (F3.kt (d := 13) hb) fun _ F4 => ?_
  refine zt F4 rfl fun _ F5 => ?_
  exact rt F5 ⟨os, hl, rfl, s1⟩
 refine zw (F3.kf (d := 13) (Bool.eq_false_iff.2 hb)) fun _ F4 => ?_
 refine Bu F4 rfl rfl rfl (Ar (by kernel_rfl) rfl (s1.Aq m0 (o := 0) rfl)) rfl rfl fun _ F5 => ?_
 refine Bu F5 rfl rfl rfl (Ao rfl underlying22 ⟨A, kc, hv⟩) rfl rfl fun _ F6 => ?_
 refine zw F6 fun _ F7 => ?_
 split at H <;> rename_i hb2
 ·cases H
  refine zt F7 hb2 fun _ F8 => ?_
  exact rt F8 ⟨os, hl, rfl, s1⟩
 obtain ⟨l, hfl, H1⟩ := bind_ok H
 refine zf F7 (Bool.eq_false_iff.2 hb2) fun _ F8 => ?_
 refine AE F8 s1 m0 fun _ F9 => ?_
 refine AU F9 (Kh (hI.Az s1) hfl) fun v2 w2 _ hS F10 => ?_
 obtain ⟨u0, rfl, hq⟩ := hS
 have s2 := s1.add hq
 obtain ⟨A2, kc2, hv2⟩ := s2.form m0
 refine zx F10 (Ao rfl underlying107 ⟨A2, kc2, hv2⟩) fun _ F11 => ?_
 refine AU F11 (TA (SL.drop s2) hl H1) fun v1 w1 _ hS F12 => ?_
 obtain ⟨os', hl', rfl, s3⟩ := hS
 refine zw F12 fun _ F13 => ?_
 exact rt F13 ⟨os', hl', rfl, s3⟩
end
end Go.Proofs.YtpnacdckamiedaaGreat
namespace Go.Proofs.YtpnacdckamiedaaGreat
open Go Go.RowKit Go.Pv Go.Proofs.Tryz
section
variable {w : World} {K : MK} {vc vt : Value} {cs : Lay} {S : MS} {w0 : World} {F0 : List Nat} {loc : List Ck} {os : List (Nat × Cq)}
abbrev Nw (K : MK) (vc vt : Value) (cs : Lay) (S : MS) : List Ck := [Ae K.g 99 (IE K vc vt S), Sl T_craw vc (Bb cs S.calls).reverse, Fo (HU cs S.calls), Sl (Ty.int .i64) vt S.told]
theorem SL.hop (hs : SL w0 F0 w (loc ++ mS K vc vt cs S)) : ∃ os, os.length = S.A4.length ∧ SL w0 F0 w (EH K S os ++ (Nw K vc vt cs S ++ loc)) := by
 obtain ⟨qs, ⟨os, hl, rfl⟩, h⟩ := SL.Mj (SL.comm hs).f4
 exact ⟨os, hl, h⟩
theorem SL.hsh (hl : os.length = S.A4.length) (hs : SL w0 F0 w (EH K S os ++ (Nw K vc vt cs S ++ loc))) : SL w0 F0 w (loc ++ mS K vc vt cs S) :=
 SL.comm (qs := mS K vc vt cs S) (SL.Kn (Q := fun qs => ∃ os : List (Nat × Cq), os.length = S.A4.length ∧ qs = EH K S os) ⟨os, hl, rfl⟩ hs).f4.f4.f4.f4
theorem SR {ref : Int} (s0 : SL w0 F0 w (loc ++ mS K vc vt cs S)) : Calls prog 135 #[jP K.gh, .int .i64 ref] w (AN fun u w_ => u = .tuple ⟨[.int .i64 (Jr S ref).1, .bool (Jr S ref).2]⟩ ∧ SL w0 F0 w_ (loc ++ mS K vc vt cs S)) := by
 obtain ⟨os, hl, s1⟩ := SL.hop s0
 refine (W7 s1 hl).mono ?_
 rintro e w' ⟨v, rfl, hv, hq⟩
 exact ⟨v, rfl, hv, SL.hsh hl hq⟩
theorem SL.mb (hs : SL w0 F0 w (loc ++ mS K vc vt cs S)) : SL w0 F0 w (Ae K.g 99 (IE K vc vt S) :: Sl T_craw vc (Bb cs S.calls).reverse :: Fo (HU cs S.calls) :: Sl (Ty.int .i64) vt S.told :: Oj K S :: loc) := SL.comm hs
theorem NP : Do prog 94 = true := by kernel_rfl
theorem Xp : Dy prog 22 109 3 48 (Gb 3) = true := by kernel_rfl
theorem Ux : FD prog 109 1 1 1 = true := by kernel_rfl
theorem N7 {ref cls : Int} {r : Bool} (s0 : SL w0 F0 w (loc ++ mS K vc vt cs S)) (hI : K.In w0 F0 S.m) (H : Jm S ref cls = some r) :
  Calls prog 114 #[jP K.g, .int .i64 ref, .int .i64 cls] w (AN fun u w_ => u = .bool r ∧ SL w0 F0 w_ (loc ++ mS K vc vt cs S)) := by
 letI := Co
 unfold Jm at H
 refine C9 func114 ntmps114 fun _ F1 => ?_
 refine AE F1 (SL.mb s0) m0 fun _ F2 => ?_
 refine AU F2 (SR s0) fun v1 w1 _ hS F3 => ?_
 obtain ⟨rfl, s1⟩ := hS
 refine zw F3 fun _ F4 => ?_
 refine Dk (GY S.m.Classes cls) (fun s a w_ => Fr a 36 [(0, jP K.g), (2, .int .i64 cls), (7, .int .i64 s.1), (8, .bool s.2)] ∧ SL w0 F0 w_ (loc ++ mS K vc vt cs S)) H ⟨F4.sb, s1⟩ ?_
 rintro ⟨c, is⟩ a2 w2 ⟨F5, s2⟩ o Hb hr
 unfold GY at Hb
 cases is with
 | false =>
  cases Hb
  obtain rfl := hr _ rfl
  refine zc F5 fun _ F6 => ?_
  refine zf F6 rfl fun _ F7 => ?_
  exact rt F7 ⟨rfl, s2⟩
 | true =>
  rw [Ab rfl] at Hb
  dsimp only at Hb
  refine zc F5 fun _ F6 => ?_
  rcases hb : (c != cls) with _ | _
  ·rw [Ac (by rw [hb]; simp)] at Hb
   cases Hb
   obtain rfl := hr _ rfl
   refine zf F6 hb fun _ F7 => ?_
   exact rt F7 ⟨rfl, s2⟩
  ·rw [Ab hb] at Hb
   obtain ⟨x, hx, H2⟩ := bind_ok Hb
   cases H2
   refine zt F6 hb fun _ F7 => ?_
   refine AE F7 (SL.mb s2) m0 fun _ F8 => ?_
   obtain ⟨ad, ccs, G, hI2, hC, hR, hG⟩ := hI.c.idx Xp rfl hx
   obtain ⟨v2, rfl, hRf⟩ := BC hR hG
   refine zx F8 (hI2 _ _ _ _ _ _ _ _ _ _ rfl rfl) fun _ F9 => ?_
   refine MU F9 Ux D1 (hC _ _ s2) fun _ F10 => ?_
   exact ⟨_, rfl, F10.sb, s2⟩
theorem XT {v : MV} {t : UInt8} {r : Bool} (s0 : SL w0 F0 w (loc ++ mS K vc vt cs S)) (hI : K.In w0 F0 S.m) (H : Ro S v t = some r) :
  Calls prog 164 #[jP K.g, PQ v, .int .u8 (t.toNat : Int)] w (AN fun u w_ => u = .bool r ∧ SL w0 F0 w_ (loc ++ mS K vc vt cs S)) := by
 letI := Co
 unfold Ro at H
 refine C9 func164 ntmps164 fun _ F1 => ?_
 refine Bz F1 s0 rfl rfl rfl fun g1 w1 _ F2 s1 => ?_
 have sm := SL.mb (loc := Ae g1 122 [.int .i64 v.kind, .int .i64 v.n] :: loc) s1
 refine zw F2 fun _ F3 => ?_
 split at H <;> rename_i h1
 ·cases H
  refine zt F3 h1 fun _ F4 => ?_
  refine AE F4 s1 m0 fun _ F5 => ?_
  exact rt F5 ⟨rfl, SL.drop s1⟩
 refine zf F3 (Bool.eq_false_iff.2 h1) fun _ F4 => ?_
 split at H <;> rename_i h2
 ·cases H
  refine zt F4 h2 fun _ F5 => ?_
  refine AE F5 s1 m0 fun _ F6 => ?_
  exact rt F6 ⟨rfl, SL.drop s1⟩
 refine zf F4 (Bool.eq_false_iff.2 h2) fun _ F5 => ?_
 refine AE F5 s1 m0 fun _ F6 => ?_
 split at H <;> rename_i h3
 ·cases H
  refine zt F6 h3 fun _ F7 => ?_
  exact rt F7 ⟨rfl, SL.drop s1⟩
 refine zf F6 (Bool.eq_false_iff.2 h3) fun _ F7 => ?_
 refine Sc 2 F7 s1 m0 fun _ F8 => ?_
 split at H <;> rename_i h4
 ·cases H
  refine zw (F8.kt (d := 29) h4) fun _ F9 => ?_
  refine zt F9 rfl fun _ F10 => ?_
  exact rt F10 ⟨rfl, SL.drop s1⟩
 refine zw (F8.kf (d := 29) (Bool.eq_false_iff.2 h4)) fun _ F9 => ?_
 split at H <;> rename_i h5
 ·cases H
  refine zt F9 h5 fun _ F10 => ?_
  exact rt F10 ⟨rfl, SL.drop s1⟩
 refine zf F9 (Bool.eq_false_iff.2 h5) fun _ F10 => ?_
 split at H <;> rename_i h6
 ·cases H
  refine zt F10 h6 fun _ F11 => ?_
  refine BH (fun w_ => SL w0 F0 w_ (Ae g1 122 [.int .i64 v.kind, .int .i64 v.n] :: loc ++ mS K vc vt cs S)) [] Cn (Ce [0, 1, 2, 3, 4, 5] F11 (Bl rfl) s1.drew (QI.ev 3 rfl <| QI.op rfl (fun w hw => Ar NP rfl ((SL.mb hw).Aq m0 (o := 5) rfl)) rfl <| QI.ev 1 rfl <| QI.op rfl (fun w hw => Ar D1 rfl (hw.Aq m0 (o := 1) rfl)) rfl <| QI.nil) fun _ F12 => ?_)
  refine BN 6 rfl (AU F12 (SR (loc := Ae g1 122 [.int .i64 v.kind, .int .i64 v.n] :: loc) s1.drew) fun v1 w2 _ hS F13 => A8 ⟨fun _ => hS.2, ?_⟩)
  obtain ⟨rfl, s2⟩ := hS
  refine Ce [7, 8, 9, 10, 11] F13 (Bl rfl) s2 (QI.ev 5 rfl <| QI.nil) fun _ F14 => ?_
  refine BE ?_
  refine ze F14 fun _ F15 => ?_
  exact rt F15 ⟨rfl, SL.drop s2⟩
 refine zf F10 (Bool.eq_false_iff.2 h6) fun _ F11 => ?_
 refine AE F11 s1 m0 fun _ F12 => ?_
 refine zx F12 (LW rfl rfl) fun _ F13 => ?_
 refine zx F13 (Jw rfl underlying64 underlying3) fun _ F14 => ?_
 refine AU F14 (N7 (loc := Ae g1 122 [.int .i64 v.kind, .int .i64 v.n] :: loc) s1 hI H) fun v1 w2 _ hS F15 => ?_
 obtain ⟨rfl, s2⟩ := hS
 refine zw F15 fun _ F16 => ?_
 exact rt F16 ⟨rfl, SL.drop s2⟩
end
end Go.Proofs.YtpnacdckamiedaaGreat
namespace Go.Proofs.YtpnacdckamiedaaGreat
open Go Go.RowKit Go.Pv Go.Proofs.Tryz
theorem JF {w : World} {a0 : Int} {r : UInt8}  (H : KR a0 = some r) :
  Calls prog 110 #[.int .i64 a0] w (AN fun u_ w_ => u_ = .int .u8 (r.toNat : Int) ∧ SL w [] w_ []) := by
 have s0 : SL w [] w [] := SL.Bf w
 refine BV func110 ntmps110 8 rfl rfl rfl fun _ F7 => ?_
 unfold KR at H
 refine gx F7 (WN rfl underlying3 underlying64) 0 rfl rfl fun _ F8 => ?_
 cases H
 refine gx F8 (QF rfl rfl) 4 rfl rfl fun _ F10 => ?_
 exact rt F10 ⟨rfl, s0⟩
end Go.Proofs.YtpnacdckamiedaaGreat
namespace Go.Proofs.YtpnacdckamiedaaGreat
open Go Go.RowKit Go.Pv Go.Proofs.Tryz
section
variable {w : World} {K : MK} {vc vt : Value} {cs : Lay} {S : MS} {w0 : World} {F0 : List Nat} {loc : List Ck} {os : List (Nat × Cq)}
theorem Wr {v : MV} {t : UInt8} {r : Bool} (s0 : SL w0 F0 w (loc ++ mS K vc vt cs S)) (hI : K.In w0 F0 S.m) (H : Ro S v t = some r) :
  Calls prog 162 #[.agg ⟨[]⟩, jP K.g, PQ v, .int .u8 (t.toNat : Int)] w (AN fun u w_ => u = .bool r ∧ SL w0 F0 w_ (loc ++ mS K vc vt cs S)) := by
 letI := Co
 refine C9 func162 ntmps162 fun _ F1 => ?_
 refine Bz F1 s0 rfl rfl rfl fun g1 w1 _ F2 s1 => ?_
 refine Bz F2 s1 rfl rfl rfl fun g2 w2 _ F3 s2 => ?_
 refine zw F3 fun _ F3 => ?_
 refine AE F3 s2 m0 fun _ F4 => ?_
 refine AU F4 (XT (loc := Ae g2 122 [.int .i64 v.kind, .int .i64 v.n] :: Ae g1 61 [] :: loc) s2 hI H) fun v1 w3 _ hS F5 => ?_
 obtain ⟨rfl, s3⟩ := hS
 refine zw F5 fun _ F6 => ?_
 exact rt F6 ⟨rfl, SL.drop (SL.drop s3)⟩
theorem JU {p : Re MV × MS} (H : many S = some p) : p.2.m = S.m := by
 unfold many at H
 split at H
 ·cases H
 rcases AQ H with ⟨e, t, q, S1, hr, rfl⟩ | ⟨x, S1, hr, H2⟩
 ·unfold Bc at hr; split at hr <;> cases hr; rfl
 ·obtain ⟨x, hx, H3⟩ := bind_ok H2
  obtain ⟨l2, hcut, H4⟩ := bind_ok H3
  cases H4
  unfold Bc at hr; split at hr <;> cases hr; rfl
theorem EF {t : UInt8} {p : Re MV × MS} (s0 : SL w0 F0 w (loc ++ mS K vc vt cs S)) (hL : B1 S cs) (hI : K.In w0 F0 S.m) (H : DD t S = some p) :
  Calls prog 71 #[jP K.g, .int .u8 (t.toNat : Int)] w (C0 p.1 (fun x v => v = PQ x) (B1 p.2) (fun cs => loc ++ mS K vc vt cs p.2) w0 F0) := by
 letI := Co
 unfold DD at H
 refine C9 func71 ntmps71 fun _ F1 => ?_
 refine An F1 s0 Cm rfl rfl fun g1 w1 _ F2 s1 => ?_
 refine zw F2 fun _ F2 => ?_
 rcases AQ H with ⟨e, t, q, S1, hr, rfl⟩ | ⟨x, S1, hr, H2⟩ <;> have hc := Jd (loc := Ae g1 122 [.int .i64 0, .int .i64 0] :: loc) s1 hL hr
 ·exact kn F2 hc fun w3 y hC s4 => rP rfl hC (SL.drop s4)
 clear H
 have hm := JU hr
 dsimp only at hm
 obtain ⟨ok, hok, H3⟩ := bind_ok H2
 refine kc F2 hc fun v3 w3 _ y hv hC s4 F6 => ?_
 obtain rfl := hv
 refine An F6 s4 Cm rfl rfl fun g2 w4 _ F7 s5 => ?_
 refine A9 (ds := [.int .i64 x.kind, .int .i64 x.n]) F7 s5 rfl rfl Eg (List.all_eq_true.1 rfl) rfl fun w5 _ F8 s6 => ?_
 refine zw F8 fun _ F9 => ?_
 refine BH (fun w_ => SL w0 F0 w_ (Ae g2 122 [.int .i64 x.kind, .int .i64 x.n] :: Ae g1 122 [.int .i64 0, .int .i64 0] :: loc ++ mS K vc vt y S1)) [] Cn (Ce [0, 1, 2, 3, 4, 5, 6] F9 (Bl rfl) s6.drew (QI.ev 3 rfl <| QI.op rfl (fun w hw => Ar Wu rfl ((SL.mb hw).Aq m0 (o := 0) rfl)) rfl <| QI.ev 1 rfl <| QI.ld m0 rfl <| QI.ev 1 rfl <| QI.nil) fun _ F10 => ?_)
 refine BN 7 rfl (S8 (vs := [.agg ⟨[]⟩, jP K.g, PQ x, .int .u8 (t.toNat : Int)]) (args := [.tmp 12, .tmp 13, .tmp 14]) F10 rfl rfl (by kernel_rfl) (Wr (loc := Ae g2 122 [.int .i64 x.kind, .int .i64 x.n] :: Ae g1 122 [.int .i64 0, .int .i64 0] :: loc) s6.drew (hm ▸ hI) hok) fun v1 w6 _ hS F11 => A8 ⟨fun _ => hS.2, ?_⟩)
 obtain ⟨rfl, s7⟩ := hS
 refine Fw 8 rfl F11 s7 fun _ F12 => ?_
 refine BE ?_
 refine ze F12 fun _ F13 => ?_
 cases ok with
 | true =>
  rw [Ab rfl] at H3
  cases H3
  refine zf F13 rfl fun _ F14 => ?_
  refine AE F14 s7 m0 fun _ F15 => ?_
  refine A9 (ds := [.int .i64 x.kind, .int .i64 x.n]) F15 (SL.f1 s7) rfl rfl Eg (List.all_eq_true.1 rfl) rfl fun w7 _ F16 s8 => ?_
  refine zw F16 fun _ F17 => ?_
  exact Wo (y := y) F17 rfl hC s8 m0 Ld rfl rfl (SL.drop (SL.drop s8))
 | false =>
  rw [Ac (by simp)] at H3
  cases H3
  refine zt F13 rfl fun _ F14 => ?_
  refine zx F14 (AP (vs := [.int .i64 153]) JZ PT rfl (cs := [.int .i64 153, .int .i64 0, .int .i64 0]) (by rfl)) fun _ F15 => ?_
  refine zx F15 (I5 rfl underlying97 (fun _ h => by cases h)) fun _ F16 => ?_
  exact Jz F16 rfl (Br rfl F16 (rP (y := y) rfl hC (SL.drop (SL.drop s7))))
end
end Go.Proofs.YtpnacdckamiedaaGreat
namespace Go.Proofs.YtpnacdckamiedaaGreat
open Go Go.RowKit Go.Pv Go.Proofs.Tryz
theorem FG : VU prog 122 1 1 = true := by kernel_rfl
abbrev Au (p : Bs) : List Value := [.int .i64 p.At, .int .u8 (p.Op.toNat : Int), .int .i64 p.A, .int .i64 p.B]
theorem G0 {t : UInt8} {S : MS} {p : Re MV × MS} (H : DD t S = some p) : p.2.m = S.m := by
 unfold DD at H
 rcases AQ H with ⟨e, t, q, S1, hr, rfl⟩ | ⟨x, S1, hr, H2⟩
 ·exact JU hr
 ·obtain ⟨ok, hok, H3⟩ := bind_ok H2
  have := JU hr
  split at H3 <;> (cases H3; exact this)
section
variable {w : World} {K : MK} {vc vt : Value} {cs : Lay} {S : MS} {w0 : World} {F0 : List Nat} {loc : List Ck} {os : List (Nat × Cq)}
theorem DG {P : Program} [h0 : BO P] {ops : Array Oper} {n d f : Nat} {m : CL} {a : Act} {fn : Func} {ty : TypeId} {pos : String} {aft : Array Edge} {args : List Operand} {ats : Array TypeId} {vs : List Value} {p : Re Unit × MS} {extra : List Ck} {l : List Oper} {Kk : List Kf}
  (hF : Fr a n m) (hc : Calls P f vs.toArray w (C0 p.1 (fun _ v => v = .tuple #[]) (B1 p.2) (fun cs => extra ++ loc ++ mS K vc vt cs p.2) w0 F0))
  (k : ∀ w y a, B1 p.2 y → SL w0 F0 w (loc ++ mS K vc vt y p.2) → Fr a n ((d, .tuple #[]) :: m) → p.1 = .ok () → wpList P ops (Bg P (bodyPost P fn (C0 p.1 (fun _ v => v = .tuple #[]) (B1 p.2) (fun cs => loc ++ mS K vc vt cs p.2) w0 F0)) Kk) l a w)
  (hargs : Fp m args = some vs := by rfl) (hf : Et h0.T.fn f = true := by rfl) (hlt : Nat.blt d n = true := by rfl) (hK : NE Kk = true := by rfl) :
  wpList P ops (Bg P (bodyPost P fn (C0 p.1 (fun _ v => v = .tuple #[]) (B1 p.2) (fun cs => loc ++ mS K vc vt cs p.2) w0 F0)) Kk) (⟨some d, .call { callee := .value (.func f), args := args.toArray, argTypes := ats }, ty, pos, aft, none⟩ :: l) a w := by
 have hdrop : ∀ {w : World} {y : Lay}, SL w0 F0 w (extra ++ loc ++ mS K vc vt y p.2) → SL w0 F0 w (loc ++ mS K vc vt y p.2) := by
  intro w y h
  rw [Y6] at h
  clear k hc
  revert h
  generalize loc ++ mS K vc vt y p.2 = X
  induction extra with
  | nil => exact fun h => h
  | cons c l ih => exact fun h => ih (SL.drop h)
 obtain ⟨r, S1⟩ := p
 cases r with
 | ok x => exact kc hF hc (fun v w a y hv hC hs hF => k w y a hC (hdrop hs) (hv ▸ hF) rfl) hargs hf hlt
 | no e t q => exact kn hF hc (fun w y hC hs => rP rfl hC (hdrop hs)) hargs hf hK
theorem Uf {i : Bs} {p : Re Unit × MS} (s0 : SL w0 F0 w (loc ++ mS K vc vt cs S)) (hL : B1 S cs) (hI : K.In w0 F0 S.m) (H : Io i.Op S = some p) :
  Calls prog 77 #[jP K.g, .agg ⟨Au i⟩] w (C0 p.1 (fun _ v => v = .tuple #[]) (B1 p.2) (fun cs => loc ++ mS K vc vt cs p.2) w0 F0) := by
 letI := Co
 unfold Io at H
 refine C9 func77 ntmps77 fun _ F1 => ?_
 refine Bz F1 s0 rfl rfl rfl fun g1 w1 _ F2 s1 => ?_
 refine zw F2 fun _ F2 => ?_
 refine AE F2 s1 m0 fun _ F3 => ?_
 split at H <;> rename_i h1
 ·refine zt F3 h1 fun _ F4 => ?_
  rcases AQ H with ⟨e, t, q, S1, hr, rfl⟩ | ⟨x, S1, hr, H2⟩ <;> have hc := EF (loc := Ae g1 130 (Au i) :: loc) s1 hL hI hr
  ·exact kn F4 hc fun w3 y hC s4 => rP rfl hC (SL.drop s4)
  refine kc F4 hc fun v3 w3 _ y hv hC s4 F5 => ?_
  obtain rfl := hv
  refine zx F5 (EC FG rfl rfl) fun _ F6 => ?_
  refine zx F6 (Wx rfl) fun _ F7 => ?_
  refine zx F7 (C7 rfl underlying3 underlying21) fun _ F8 => ?_
  refine zx F8 (C7 rfl underlying21 underlying3) fun _ F9 => ?_
  refine DG (extra := [Ae g1 130 (Au i)]) F9 (C5 (loc := Ae g1 130 (Au i) :: loc) s4 hC H2) fun w y a hC2 hs F10 he => ?_
  refine zw F10 fun _ F11 => ?_
  exact rE (vs := []) F11 he rfl hC2 hs
 refine zf F3 (Bool.eq_false_iff.2 h1) fun _ F4 => ?_
 split at H <;> rename_i h2
 ·refine zt F4 h2 fun _ F5 => ?_
  rcases AQ H with ⟨e, t, q, S1, hr, rfl⟩ | ⟨x, S1, hr, H2⟩ <;> have hc := EF (loc := Ae g1 130 (Au i) :: loc) s1 hL hI hr
  ·exact kn F5 hc fun w3 y hC s4 => rP rfl hC (SL.drop s4)
  refine kc F5 hc fun v3 w3 _ y hv hC s4 F5 => ?_
  obtain rfl := hv
  refine zx F5 (EC FG rfl rfl) fun _ F6 => ?_
  refine DG (extra := [Ae g1 130 (Au i)]) F6 (C5 (loc := Ae g1 130 (Au i) :: loc) s4 hC H2) fun w y a hC2 hs F10 he => ?_
  refine zw F10 fun _ F11 => ?_
  exact rE (vs := []) F11 he rfl hC2 hs
 refine zf F4 (Bool.eq_false_iff.2 h2) fun _ F5 => ?_
 split at H <;> rename_i h3
 ·refine zt F5 h3 fun _ F6 => ?_
  rcases AQ H with ⟨e, t, q, S1, hr, rfl⟩ | ⟨y, S1, hr, H2⟩ <;> have hc := Jd (loc := Ae g1 130 (Au i) :: loc) s1 hL hr
  ·exact kn F6 hc fun w3 y hC s4 => rP rfl hC (SL.drop s4)
  refine kc F6 hc fun v3 w3 _ y1 hv hC s4 F7 => ?_
  obtain rfl := hv
  refine An F7 s4 Cm rfl rfl fun g2 w4 _ F8 s5 => ?_
  refine A9 (ds := [.int .i64 y.kind, .int .i64 y.n]) F8 s5 rfl rfl Eg (List.all_eq_true.1 rfl) rfl fun w5 _ F9 s6 => ?_
  refine zw F9 fun _ F9 => ?_
  clear H
  rcases AQ H2 with ⟨e, t, q, S2, hr2, rfl⟩ | ⟨x, S2, hr2, H3⟩ <;> have hc2 := Jd (loc := Ae g2 122 [.int .i64 y.kind, .int .i64 y.n] :: Ae g1 130 (Au i) :: loc) s6 hC hr2
  ·exact kn F9 hc2 fun w3 y hC s4 => rP rfl hC (SL.drop (SL.drop s4))
  clear H2
  refine kc F9 hc2 fun v4 w6 _ y2 hv hC2 s7 F10 => ?_
  obtain rfl := hv
  refine An F10 s7 Cm rfl rfl fun g3 w7 _ F11 s8 => ?_
  refine A9 (ds := [.int .i64 x.kind, .int .i64 x.n]) F11 s8 rfl rfl Eg (List.all_eq_true.1 rfl) rfl fun w8 _ F12 s9 => ?_
  refine zw F12 fun _ F12 => ?_
  refine AE F12 s9 m0 fun _ F13 => ?_
  refine Sc 2 F13 s9 m1 fun _ F14 => ?_
  have hst := fun ok => Dm (loc := Ae g3 122 [.int .i64 x.kind, .int .i64 x.n] :: Ae g2 122 [.int .i64 y.kind, .int .i64 y.n] :: Ae g1 130 (Au i) :: loc) ok s9
  rcases e1 : (x.kind == y.kind) with _ | _
  ·refine zw (F14.kf (d := 40) e1) fun _ F20 => ?_
   have hok : (if (x.kind == y.kind) = true then (if (x.kind == 1) = true then true else (x.kind == 2)) else false) = false := by rw [Ac (by rw [e1]; simp)]
   rw [hok] at H3
   rcases AQ H3 with ⟨e, t, q, S3, hr3, rfl⟩ | ⟨_, S3, hr3, H4⟩ <;> unfold Bc at hr3 <;> split at hr3 <;> rename_i hb <;> cases hr3
   ·have hst' := hst (false)
    rw [Ac hb] at hst'
    exact kn F20 hst' fun w9 _ _ s10 => rP (y := y2) rfl hC2 (SL.drop (SL.drop (SL.drop s10)))
   have hst' := hst (false)
   rw [Ab hb] at hst'
   refine kc F20 hst' fun v5 w9 _ _ hv _ s10 F21 => ?_
   refine zw F21 fun _ F22 => ?_
   refine AE F22 s10 m0 fun _ F23 => ?_
   refine AE F23 s10 m1 fun _ F24 => ?_
   refine DG (extra := [Ae g3 122 [.int .i64 x.kind, .int .i64 x.n], Ae g2 122 [.int .i64 y.kind, .int .i64 y.n], Ae g1 130 (Au i)]) F24 (LH (loc := Ae g3 122 [.int .i64 x.kind, .int .i64 x.n] :: Ae g2 122 [.int .i64 y.kind, .int .i64 y.n] :: Ae g1 130 (Au i) :: loc) s10 hC2 H4) fun w y a hC2 hs F25 he => ?_
   refine zw F25 fun _ F26 => ?_
   exact rE (vs := []) F26 he rfl hC2 hs
  ·refine zw (F14.kt (d := 40) e1) fun _ F15 => ?_
   refine Bu F15 rfl rfl rfl (Ar D1 rfl (s9.Aq m0 (o := 0) rfl)) rfl rfl fun _ F16 => ?_
   refine IQ 2 F16 fun _ F17 => ?_
   rcases e2 : (x.kind == 1) with _ | _
   ·refine zw (F17.kf (d := 44) e2) fun _ F18 => ?_
    refine Bu F18 rfl rfl rfl (Ar D1 rfl (s9.Aq m0 (o := 0) rfl)) rfl rfl fun _ F19 => ?_
    refine zw F19 fun _ F20 => ?_
    have hok : (if (x.kind == y.kind) = true then (if (x.kind == 1) = true then true else (x.kind == 2)) else false) = (x.kind == 2) := by rw [Ab e1, Ac (by rw [e2]; simp)]
    rw [hok] at H3
    rcases AQ H3 with ⟨e, t, q, S3, hr3, rfl⟩ | ⟨_, S3, hr3, H4⟩ <;> unfold Bc at hr3 <;> split at hr3 <;> rename_i hb <;> cases hr3
    ·have hst' := hst (x.kind == 2)
     rw [Ac hb] at hst'
     exact kn F20 hst' fun w9 _ _ s10 => rP (y := y2) rfl hC2 (SL.drop (SL.drop (SL.drop s10)))
    have hst' := hst (x.kind == 2)
    rw [Ab hb] at hst'
    refine kc F20 hst' fun v5 w9 _ _ hv _ s10 F21 => ?_
    refine zw F21 fun _ F22 => ?_
    refine AE F22 s10 m0 fun _ F23 => ?_
    refine AE F23 s10 m1 fun _ F24 => ?_
    refine DG (extra := [Ae g3 122 [.int .i64 x.kind, .int .i64 x.n], Ae g2 122 [.int .i64 y.kind, .int .i64 y.n], Ae g1 130 (Au i)]) F24 (LH (loc := Ae g3 122 [.int .i64 x.kind, .int .i64 x.n] :: Ae g2 122 [.int .i64 y.kind, .int .i64 y.n] :: Ae g1 130 (Au i) :: loc) s10 hC2 H4) fun w y a hC2 hs F25 he => ?_
    refine zw F25 fun _ F26 => ?_
    exact rE (vs := []) F26 he rfl hC2 hs
   ·refine zw (F17.kt (d := 44) e2) fun _ F20 => ?_
    have hok : (if (x.kind == y.kind) = true then (if (x.kind == 1) = true then true else (x.kind == 2)) else false) = true := by rw [Ab e1, Ab e2]
    rw [hok] at H3
    rcases AQ H3 with ⟨e, t, q, S3, hr3, rfl⟩ | ⟨_, S3, hr3, H4⟩ <;> unfold Bc at hr3 <;> split at hr3 <;> rename_i hb <;> cases hr3
    ·have hst' := hst (true)
     rw [Ac hb] at hst'
     exact kn F20 hst' fun w9 _ _ s10 => rP (y := y2) rfl hC2 (SL.drop (SL.drop (SL.drop s10)))
    have hst' := hst (true)
    rw [Ab hb] at hst'
    refine kc F20 hst' fun v5 w9 _ _ hv _ s10 F21 => ?_
    refine zw F21 fun _ F22 => ?_
    refine AE F22 s10 m0 fun _ F23 => ?_
    refine AE F23 s10 m1 fun _ F24 => ?_
    refine DG (extra := [Ae g3 122 [.int .i64 x.kind, .int .i64 x.n], Ae g2 122 [.int .i64 y.kind, .int .i64 y.n], Ae g1 130 (Au i)]) F24 (LH (loc := Ae g3 122 [.int .i64 x.kind, .int .i64 x.n] :: Ae g2 122 [.int .i64 y.kind, .int .i64 y.n] :: Ae g1 130 (Au i) :: loc) s10 hC2 H4) fun w y a hC2 hs F25 he => ?_
    refine zw F25 fun _ F26 => ?_
    exact rE (vs := []) F26 he rfl hC2 hs
 refine zf F5 (Bool.eq_false_iff.2 h3) fun _ F6 => ?_
 rcases AQ H with ⟨e, t, q, S1, hr, rfl⟩ | ⟨y, S1, hr, H2⟩ <;> have hc := EF (t := 1) (loc := Ae g1 130 (Au i) :: loc) s1 hL hI hr
 ·exact kn F6 hc fun w3 y hC s4 => rP rfl hC (SL.drop s4)
 have hm := G0 hr
 refine kc F6 hc fun v3 w3 _ y1 hv hC s4 F7 => ?_
 obtain rfl := hv
 refine zx F7 (EC FG rfl rfl) fun _ F8 => ?_
 clear H
 rcases AQ H2 with ⟨e, t, q, S2, hr2, rfl⟩ | ⟨x, S2, hr2, H3⟩ <;> have hc2 := EF (t := 1) (loc := Ae g1 130 (Au i) :: loc) s4 hC ((show S1.m = S.m from hm) ▸ hI) hr2
 ·exact kn F8 hc2 fun w3 y hC s4 => rP rfl hC (SL.drop s4)
 clear H2
 refine kc F8 hc2 fun v4 w4 _ y2 hv hC2 s5 F9 => ?_
 obtain rfl := hv
 refine zx F9 (EC FG rfl rfl) fun _ F10 => ?_
 refine AE F10 s5 m0 fun _ F11 => ?_
 split at H3 <;> rename_i g1'
 ·refine zt F11 g1' fun _ F12 => ?_
  refine zx F12 (C7 rfl underlying3 underlying21) fun _ F13 => ?_
  refine zx F13 (C7 rfl underlying21 underlying3) fun _ F14 => ?_
  refine DG (extra := [Ae g1 130 (Au i)]) F14 (C5 (loc := Ae g1 130 (Au i) :: loc) s5 hC2 H3) fun w y a hC2 hs F15 he => ?_
  refine zw F15 fun _ F16 => ?_
  exact rN F16 he rfl hC2 hs
 refine zf F11 (Bool.eq_false_iff.2 g1') fun _ F12 => ?_
 split at H3 <;> rename_i g2'
 ·refine zt F12 g2' fun _ F12 => ?_
  refine zx F12 (C7 rfl underlying3 underlying21) fun _ F13 => ?_
  refine zx F13 (C7 rfl underlying21 underlying3) fun _ F14 => ?_
  refine DG (extra := [Ae g1 130 (Au i)]) F14 (C5 (loc := Ae g1 130 (Au i) :: loc) s5 hC2 H3) fun w y a hC2 hs F15 he => ?_
  refine zw F15 fun _ F16 => ?_
  exact rN F16 he rfl hC2 hs
 refine zf F12 (Bool.eq_false_iff.2 g2') fun _ F13 => ?_
 split at H3 <;> rename_i g3'
 ·refine zt F13 g3' fun _ F12 => ?_
  refine zx F12 (C7 rfl underlying3 underlying21) fun _ F13 => ?_
  refine zx F13 (C7 rfl underlying21 underlying3) fun _ F14 => ?_
  refine DG (extra := [Ae g1 130 (Au i)]) F14 (C5 (loc := Ae g1 130 (Au i) :: loc) s5 hC2 H3) fun w y a hC2 hs F15 he => ?_
  refine zw F15 fun _ F16 => ?_
  exact rN F16 he rfl hC2 hs
 refine zf F13 (Bool.eq_false_iff.2 g3') fun _ F14 => ?_
 split at H3 <;> rename_i g4'
 ·refine zt F14 g4' fun _ F15 => ?_
  refine DG (extra := [Ae g1 130 (Au i)]) F15 (LH (loc := Ae g1 130 (Au i) :: loc) s5 hC2 H3) fun w y a hC2 hs F15 he => ?_
  refine zw F15 fun _ F16 => ?_
  exact rN F16 he rfl hC2 hs
 refine zf F14 (Bool.eq_false_iff.2 g4') fun _ F15 => ?_
 split at H3 <;> rename_i g5'
 ·cases H3
  refine zt F15 g5' fun _ F16 => ?_
  exact Hn F16 (Ex s5) fun w2 s6 => Br rfl F16 (rP (y := y2) rfl hC2 (SL.drop s6))
 refine zf F15 (Bool.eq_false_iff.2 g5') fun _ F16 => ?_
 refine AE F16 s5 m0 fun _ F17 => ?_
 split at H3 <;> rename_i g6'
 ·refine zt F17 g6' fun _ F12 => ?_
  refine zx F12 (WU rfl rfl (Bool.eq_false_iff.2 g5')) fun _ F13 => ?_
  refine zx F13 (C7 rfl underlying3 underlying21) fun _ F13 => ?_
  refine zx F13 (C7 rfl underlying21 underlying3) fun _ F14 => ?_
  refine DG (extra := [Ae g1 130 (Au i)]) F14 (C5 (loc := Ae g1 130 (Au i) :: loc) s5 hC2 H3) fun w y a hC2 hs F15 he => ?_
  refine zw F15 fun _ F16 => ?_
  exact rN F16 he rfl hC2 hs
 refine zf F17 (Bool.eq_false_iff.2 g6') fun _ F12 => ?_
 refine zx F12 (P4 rfl rfl (Bool.eq_false_iff.2 g5')) fun _ F13 => ?_
 refine DG (extra := [Ae g1 130 (Au i)]) F13 (C5 (loc := Ae g1 130 (Au i) :: loc) s5 hC2 H3) fun w y a hC2 hs F15 he => ?_
 refine zw F15 fun _ F16 => ?_
 exact rN F16 he rfl hC2 hs
end
end Go.Proofs.YtpnacdckamiedaaGreat
namespace Go.Proofs.YtpnacdckamiedaaGreat
open Go Go.RowKit Go.Pv Go.Proofs.Tryz
theorem Nq {S S1 : MS} {x : MV} {c : MC} {r : List MC} (H : many S = some (.ok x, S1)) (hc : S.calls = c :: r) : ∃ l, S1 = { S with calls := { c with stack := l } :: r } := by
 unfold many at H
 rw [hc] at H
 rcases AQ H with ⟨e, t, q, S1, hr, h⟩ | ⟨x, S1, hr, H2⟩
 ·cases h
 ·obtain ⟨x, hx, H3⟩ := bind_ok H2
  obtain ⟨l2, hcut, H4⟩ := bind_ok H3
  unfold Bc at hr; split at hr <;> cases hr; cases H4; exact ⟨_, rfl⟩
section
variable {w : World} {K : MK} {vc vt : Value} {cs : Lay} {S : MS} {w0 : World} {F0 : List Nat} {loc : List Ck}
theorem Ve {i : Bs} {p : Re Unit × MS} (s0 : SL w0 F0 w (loc ++ mS K vc vt cs S)) (hL : B1 S cs) (H : I9 i.Op i.A S = some p) :
  Calls prog 69 #[jP K.g, .agg ⟨Au i⟩] w (C0 p.1 (fun _ v => v = .tuple #[]) (B1 p.2) (fun cs => loc ++ mS K vc vt cs p.2) w0 F0) := by
 letI := Co
 have hL0 := hL
 obtain ⟨hl, hfew⟩ := hL
 have hne : ∃ c r, S.calls = c :: r := by
  rcases h : S.calls with _ | ⟨c, r⟩
  ·exfalso
   unfold I9 Ly I6 many at H
   rw [h] at H
   dsimp only at H
   repeat' split at H
   all_goals cases H
  ·exact ⟨c, r, rfl⟩
 obtain ⟨c, r, hc⟩ := hne
 unfold I9 at H
 refine C9 func69 ntmps69 fun _ F1 => ?_
 refine Bz F1 s0 rfl rfl rfl fun g1 w1 _ F2 s1 => ?_
 refine zw F2 fun _ F2 => ?_
 refine AU F2 (HN (loc := Ae g1 130 (Au i) :: loc) s1 hl hc (GQ hfew hc)) fun v2 w2 _ hS F3 => ?_
 obtain ⟨⟨ad, rfl, hT⟩, s2⟩ := hS
 obtain ⟨a, b, cs', rfl, hl', _⟩ := En (hc ▸ hl)
 refine zw F3 fun _ F3 => ?_
 refine AE F3 s2 m0 fun _ F4 => ?_
 have hC := fun w (hw : SL w0 F0 w (Ae g1 130 (Au i) :: loc ++ mS K vc vt ((a, b) :: cs') S)) => SL.GR hw hc hl' hT
 obtain ⟨A1, k1, e1⟩ := (SL.mop (SL.comm s2) hc).form m0
 split at H <;> rename_i h1
 ·refine zt F4 h1 fun _ F5 => ?_
  have H1 := H
  clear H
  refine BH (fun w_ => SL w0 F0 w_ (Ae g1 130 (Au i) :: loc ++ mS K vc vt ((a, b) :: cs') S)) [] Cn (Ce [0, 1, 2, 3, 4, 5, 6, 7, 8] F5 (Bl rfl) s2.drew (QI.ev 2 rfl <| QI.ld m0 rfl <| QI.ev 2 rfl <| QI.fl JP Gs hC rfl rfl rfl rfl rfl rfl <| QI.op rfl (fun w hw => Ao rfl underlying104 ⟨A1, k1, e1⟩) rfl <| QI.ev 1 rfl <| QI.nil) fun _ F6 => ?_)
  have hst := fun ok => Dm (loc := Ae g1 130 (Au i) :: loc) ok s2.drew
  have hv0 : Ly i.A S = Mb (Bc (decide (i.A < (c.vars.length : Int))) S) fun _ s => (idx c.vars i.A).bind fun v => some (.ok v, s) := by unfold Ly; rw [hc]
  rw [hv0] at H1
  rcases hb : decide (i.A < (c.vars.length : Int)) with _ | _
  ·rw [hb] at H1
   cases H1
   have hst' := hst (decide (i.A < (c.vars.length : Int)))
   rw [Ac (by rw [hb]; simp)] at hst'
   exact IP 9 F6 hst' fun w3 _ _ s4 => Br rfl F6 (rP (y := (a, b) :: cs') rfl hL0 (SL.drop s4))
  have hst' := hst (decide (i.A < (c.vars.length : Int)))
  rw [Ab hb] at hst'
  rw [hb] at H1
  refine IM 9 F6 hst' fun v3 w3 _ y hV _ s3 F7 => ⟨fun _ => s3, BE ?_⟩
  refine ze F7 fun _ F8 => ?_
  have H2 : Mb ((idx c.vars i.A).bind fun v => some (.ok v, S)) (fun v s => Mb (Bc (v.kind != 0) s) fun _ s => Cb v.kind v.n s) = some p := H1
  rcases hx : idx c.vars i.A with _ | x
  ·rw [hx] at H2; cases H2
  rw [hx] at H2
  have H3 : Mb (Bc (x.kind != 0) S) (fun _ s => Cb x.kind x.n s) = some p := H2
  obtain ⟨ad2, hIx, hE⟩ := Gm DY (SL.mop (SL.comm s3) hc) m0 FZ rfl hx
  refine BH (fun w_ => SL w0 F0 w_ (Ae g1 130 (Au i) :: loc ++ mS K vc vt ((a, b) :: cs') S)) [] Cn (Ce [0, 1, 2, 3, 4, 5, 6, 7] F8 (Bl rfl) s3.drew (QI.ev 2 rfl <| QI.fl JP Gs hC rfl rfl rfl rfl rfl rfl <| QI.ev 1 rfl <| QI.ld m0 rfl <| QI.ix hIx rfl <| QI.op rfl (fun w hw => Be Ld rfl (SL.GT DY (SL.mop (SL.comm hw) hc) m0 hE hx) rfl) rfl <| QI.nil) fun _ F9 => ?_)
  refine BN 8 rfl (An F9 s3.drew Cm rfl rfl fun g2 w4 _ F10 s6 => A8 ⟨fun _ => SL.drop s6, ?_⟩)
  refine BN 9 rfl (A9 (ds := [.int .i64 x.kind, .int .i64 x.n]) F10 s6 rfl rfl Eg (List.all_eq_true.1 rfl) rfl fun w5 _ F11 s7 => A8 ⟨fun _ => SL.drop s7, BE ?_⟩)
  refine ze F11 fun _ F12 => ?_
  refine AE F12 s7 m0 fun _ F13 => ?_
  have hst2 := Dm (loc := Ae g2 122 [.int .i64 x.kind, .int .i64 x.n] :: Ae g1 130 (Au i) :: loc) (x.kind != 0) s7
  rcases AQ H3 with ⟨e, t, q, S2, hr, rfl⟩ | ⟨_, S2, hr, H4⟩ <;> unfold Bc at hr <;> split at hr <;> rename_i hb2 <;> cases hr
  ·rw [Ac hb2] at hst2
   exact kn F13 hst2 fun w3 _ _ s4 => rP (y := (a, b) :: cs') rfl hL0 (SL.drop (SL.drop s4))
  rw [Ab hb2] at hst2
  refine kc F13 hst2 fun v5 w9 _ _ hv _ s10 F21 => ?_
  refine zw F21 fun _ F22 => ?_
  refine AE F22 s10 m0 fun _ F23 => ?_
  refine AE F23 s10 m0 fun _ F24 => ?_
  refine DG (extra := [Ae g2 122 [.int .i64 x.kind, .int .i64 x.n], Ae g1 130 (Au i)]) F24 (C5 (loc := Ae g2 122 [.int .i64 x.kind, .int .i64 x.n] :: Ae g1 130 (Au i) :: loc) s10 hL0 H4) fun w y a hC2 hs F25 he => ?_
  refine zw F25 fun _ F26 => ?_
  exact rN F26 he rfl hC2 hs
 refine zf F4 (Bool.eq_false_iff.2 h1) fun _ F5 => ?_
 split at H <;> rename_i h2
 ·refine zt F5 h2 fun _ F6 => ?_
  have H1 := H
  clear H
  refine BH (fun w_ => SL w0 F0 w_ (Ae g1 130 (Au i) :: loc ++ mS K vc vt ((a, b) :: cs') S)) [] Cn (Ce [0, 1, 2, 3, 4, 5, 6, 7, 8] F6 (Bl rfl) s2.drew (QI.ev 2 rfl <| QI.ld m0 rfl <| QI.ev 2 rfl <| QI.fl JP Gs hC rfl rfl rfl rfl rfl rfl <| QI.op rfl (fun w hw => Ao rfl underlying104 ⟨A1, k1, e1⟩) rfl <| QI.ev 1 rfl <| QI.nil) fun _ F7 => ?_)
  have hst := fun ok => Dm (loc := Ae g1 130 (Au i) :: loc) ok s2.drew
  have hv0 : I6 i.A S = Bc (decide (i.A < (c.vars.length : Int))) S := by unfold I6; rw [hc]
  rw [hv0] at H1
  rcases hb : decide (i.A < (c.vars.length : Int)) with _ | _
  ·rw [hb] at H1
   cases H1
   have hst' := hst (decide (i.A < (c.vars.length : Int)))
   rw [Ac (by rw [hb]; simp)] at hst'
   exact IP 9 F7 hst' fun w3 _ _ s4 => Br rfl F7 (rP (y := (a, b) :: cs') rfl hL0 (SL.drop s4))
  have hst' := hst (decide (i.A < (c.vars.length : Int)))
  rw [Ab hb] at hst'
  rw [hb] at H1
  refine IM 9 F7 hst' fun v3 w3 _ y hV _ s3 F8 => ⟨fun _ => s3, BE ?_⟩
  refine ze F8 fun _ F9 => ?_
  have H2 : Mb (many S) (fun v s => Mb (Bc (v.kind != 0) s) fun _ s => KE i.A v s) = some p := H1
  clear H1
  rcases AQ H2 with ⟨e, t, q, S1, hr, rfl⟩ | ⟨x, S1, hr, H3⟩ <;> have hc1 := Jd (loc := Ae g1 130 (Au i) :: loc) s3 hL0 hr
  ·exact kn F9 hc1 fun w3 y hC s4 => rP rfl hC (SL.drop s4)
  clear H2
  obtain ⟨l, hS1⟩ := Nq hr hc
  have hcS : S1.calls = { c with stack := l } :: r := by rw [hS1]
  refine kc F9 hc1 fun v3 w4 _ y hv hCy s4 F10 => ?_
  obtain rfl := hv
  refine An F10 s4 Cm rfl rfl fun g2 w5 _ F11 s5 => ?_
  refine A9 (ds := [.int .i64 x.kind, .int .i64 x.n]) F11 s5 rfl rfl Eg (List.all_eq_true.1 rfl) rfl fun w6 _ F12 s6 => ?_
  refine zw F12 fun _ F13 => ?_
  refine AE F13 s6 m0 fun _ F14 => ?_
  have hst2 := Dm (loc := Ae g2 122 [.int .i64 x.kind, .int .i64 x.n] :: Ae g1 130 (Au i) :: loc) (x.kind != 0) s6
  rcases AQ H3 with ⟨e, t, q, S2, hr2, rfl⟩ | ⟨_, S2, hr2, H4⟩ <;> unfold Bc at hr2 <;> split at hr2 <;> rename_i hb2 <;> cases hr2
  ·rw [Ac hb2] at hst2
   exact kn F14 hst2 fun w3 _ _ s4 => rP (y := y) rfl hCy (SL.drop (SL.drop s4))
  rw [Ab hb2] at hst2
  clear H3
  refine kc F14 hst2 fun v5 w9 _ _ hv _ s10 F15 => ?_
  refine zw F15 fun _ F16 => ?_
  unfold KE at H4
  rw [hcS] at H4
  obtain ⟨z, hz, H5⟩ := bind_ok H4
  cases H5
  obtain ⟨a2, b2, cs2, rfl, hl2, _⟩ := En (hcS ▸ hCy.1)
  have hC2 := fun w (hw : SL w0 F0 w (Ae g2 122 [.int .i64 x.kind, .int .i64 x.n] :: Ae g1 130 (Au i) :: loc ++ mS K vc vt ((a2, b2) :: cs2) S1)) => SL.GR hw hcS hl2 hT
  obtain ⟨ad2, hIx, hE⟩ := Gm DY (SL.mop (SL.comm s10) hcS) m0 FZ rfl hz
  refine BH (fun w_ => SL w0 F0 w_ (Ae g2 122 [.int .i64 x.kind, .int .i64 x.n] :: Ae g1 130 (Au i) :: loc ++ mS K vc vt ((a2, b2) :: cs2) S1)) [8] Cn (Ce [0, 1, 2, 3, 4, 5, 6, 7] F16 (Bl rfl) s10.drew (QI.ev 2 rfl <| QI.fl JP Gs hC2 rfl rfl rfl rfl rfl rfl <| QI.ev 1 rfl <| QI.ld m1 rfl <| QI.ld m0 rfl <| QI.ix hIx rfl <| QI.nil) fun _ F17 => ?_)
  refine BN 8 rfl (MM DY (y' := x) F17 (SL.mop (SL.comm s10.drew) hcS) hE hz rfl rfl rfl Eg fun w7 _ F18 s11 => A8 ⟨fun h => by simp [Et] at h, BE ?_⟩)
  refine ze F18 fun _ F19 => ?_
  refine rN (y := (a2, b2) :: cs2) F19 rfl rfl ⟨by simp [hl2], J0 hCy.2 (by rw [hcS]; simp)⟩ ?_
  have s12 : SL w0 F0 w7 (mS K vc vt ((a2, b2) :: cs2) { S1 with calls := { c with stack := l, vars := c.vars.set i.A.toNat x } :: r } ++ (Ae g2 122 [.int .i64 x.kind, .int .i64 x.n] :: Ae g1 130 (Au i) :: loc)) := SL.Mh (c := { c with stack := l, vars := c.vars.set i.A.toNat x }) (r := r) s11 rfl
  exact SL.drop (SL.drop (SL.comm s12))
 refine zf F5 (Bool.eq_false_iff.2 h2) fun _ F6 => ?_
 split at H <;> rename_i h3
 ·refine zt F6 h3 fun _ F7 => ?_
  rcases AQ H with ⟨e, t, q, S1, hr, rfl⟩ | ⟨x, S1, hr, H2⟩ <;> have hc1 := Jd (loc := Ae g1 130 (Au i) :: loc) s2 hL0 hr
  ·exact kn F7 hc1 fun w3 y hC s4 => rP rfl hC (SL.drop s4)
  cases H2
  refine kc F7 hc1 fun v3 w3 _ y hv hC s4 F8 => ?_
  refine zw F8 fun _ F9 => ?_
  exact rN F9 rfl rfl hC (SL.drop s4)
 refine zf F6 (Bool.eq_false_iff.2 h3) fun _ F7 => ?_
 split at H <;> rename_i h4
 ·refine zt F7 h4 fun _ F8 => ?_
  rcases AQ H with ⟨e, t, q, S1, hr, rfl⟩ | ⟨x, S1, hr, H2⟩ <;> have hc1 := Jd (loc := Ae g1 130 (Au i) :: loc) s2 hL0 hr
  ·exact kn F8 hc1 fun w3 y hC s4 => rP rfl hC (SL.drop s4)
  clear H
  refine kc F8 hc1 fun v3 w3 _ y hv hC s4 F9 => ?_
  obtain rfl := hv
  refine An F9 s4 Cm rfl rfl fun g2 w4 _ F10 s5 => ?_
  refine A9 (ds := [.int .i64 x.kind, .int .i64 x.n]) F10 s5 rfl rfl Eg (List.all_eq_true.1 rfl) rfl fun w5 _ F11 s6 => ?_
  refine zw F11 fun _ F12 => ?_
  refine AE F12 s6 m0 fun _ F13 => ?_
  refine AE F13 s6 m0 fun _ F14 => ?_
  rcases AQ H2 with ⟨e, t, q, S2, hr2, rfl⟩ | ⟨_, S2, hr2, H3⟩ <;> have hc2 := C5 (loc := Ae g2 122 [.int .i64 x.kind, .int .i64 x.n] :: Ae g1 130 (Au i) :: loc) s6 hC hr2
  ·exact kn F14 hc2 fun w3 y hC s4 => rP rfl hC (SL.drop (SL.drop s4))
  clear H2
  refine kc F14 hc2 fun v3 w6 _ y2 hv hC2 s7 F15 => ?_
  refine zw F15 fun _ F16 => ?_
  refine AE F16 s7 m0 fun _ F17 => ?_
  refine AE F17 s7 m0 fun _ F18 => ?_
  refine DG (extra := [Ae g2 122 [.int .i64 x.kind, .int .i64 x.n], Ae g1 130 (Au i)]) F18 (C5 (loc := Ae g2 122 [.int .i64 x.kind, .int .i64 x.n] :: Ae g1 130 (Au i) :: loc) s7 hC2 H3) fun w y a hC2 hs F25 he => ?_
  refine zw F25 fun _ F26 => ?_
  exact rN F26 he rfl hC2 hs
 refine zf F7 (Bool.eq_false_iff.2 h4) fun _ F8 => ?_
 rcases AQ H with ⟨e, t, q, S1, hr, rfl⟩ | ⟨x, S1, hr, H2⟩ <;> have hc1 := Jd (loc := Ae g1 130 (Au i) :: loc) s2 hL0 hr
 ·exact kn F8 hc1 fun w3 y hC s4 => rP rfl hC (SL.drop s4)
 clear H
 refine kc F8 hc1 fun v3 w3 _ y hv hC s4 F9 => ?_
 obtain rfl := hv
 refine An F9 s4 Cm rfl rfl fun g2 w4 _ F10 s5 => ?_
 refine A9 (ds := [.int .i64 x.kind, .int .i64 x.n]) F10 s5 rfl rfl Eg (List.all_eq_true.1 rfl) rfl fun w5 _ F11 s6 => ?_
 refine zw F11 fun _ F12 => ?_
 rcases AQ H2 with ⟨e, t, q, S2, hr2, rfl⟩ | ⟨z, S2, hr2, H3⟩ <;> have hc2 := Jd (loc := Ae g2 122 [.int .i64 x.kind, .int .i64 x.n] :: Ae g1 130 (Au i) :: loc) s6 hC hr2
 ·exact kn F12 hc2 fun w3 y hC s4 => rP rfl hC (SL.drop (SL.drop s4))
 clear H2
 refine kc F12 hc2 fun v3 w6 _ y2 hv hC2 s7 F15 => ?_
 obtain rfl := hv
 refine An F15 s7 Cm rfl rfl fun g3 w7 _ F16 s8 => ?_
 refine A9 (ds := [.int .i64 z.kind, .int .i64 z.n]) F16 s8 rfl rfl Eg (List.all_eq_true.1 rfl) rfl fun w8 _ F17 s9 => ?_
 refine zw F17 fun _ F18 => ?_
 refine AE F18 s9 m1 fun _ F19 => ?_
 refine AE F19 s9 m1 fun _ F20 => ?_
 rcases AQ H3 with ⟨e, t, q, S3, hr3, rfl⟩ | ⟨_, S3, hr3, H4⟩ <;> have hc3 := C5 (loc := Ae g3 122 [.int .i64 z.kind, .int .i64 z.n] :: Ae g2 122 [.int .i64 x.kind, .int .i64 x.n] :: Ae g1 130 (Au i) :: loc) s9 hC2 hr3
 ·exact kn F20 hc3 fun w3 y hC s4 => rP rfl hC (SL.drop (SL.drop (SL.drop s4)))
 clear H3
 refine kc F20 hc3 fun v3 w9 _ y3 hv hC3 s10 F21 => ?_
 refine zw F21 fun _ F22 => ?_
 refine AE F22 s10 m0 fun _ F23 => ?_
 refine AE F23 s10 m0 fun _ F24 => ?_
 refine DG (extra := [Ae g3 122 [.int .i64 z.kind, .int .i64 z.n], Ae g2 122 [.int .i64 x.kind, .int .i64 x.n], Ae g1 130 (Au i)]) F24 (C5 (loc := Ae g3 122 [.int .i64 z.kind, .int .i64 z.n] :: Ae g2 122 [.int .i64 x.kind, .int .i64 x.n] :: Ae g1 130 (Au i) :: loc) s10 hC3 H4) fun w y a hC2 hs F25 he => ?_
 refine zw F25 fun _ F26 => ?_
 exact rN F26 he rfl hC2 hs
end
end Go.Proofs.YtpnacdckamiedaaGreat
namespace Go.Proofs.YtpnacdckamiedaaGreat
open Go Go.RowKit Go.Pv Go.Proofs.Tryz
def J5 (p : Int × Int) : Mm Unit := fun s => if (p.2 != 0) = true then GL 6 s else Cb 3 p.1 s
def IH (ref i : Int) : Mm Int := fun s => (M5 s ref i).bind fun p => if (p.2 != 0) = true then GL 3 s else some (.ok p.1, s)
def Ep (fn : Int) (args : List MV) : MS → Option MS := fun s => (idx s.m.Funcs fn).bind fun f => (Ol 16 f.Ak (⟨0, 0⟩ : MV)).bind fun l =>
 if decide (s.calls.length + 1 ≤ 2199023255552) = true then some { s with calls := ⟨fn, 0, FC l args, []⟩ :: s.calls } else none
section
variable {w : World} {K : MK} {vc vt : Value} {cs : Lay} {S : MS} {w0 : World} {F0 : List Nat} {loc : List Ck}
theorem Sr {ref e : Int} {p : Re Unit × MS} (s0 : SL w0 F0 w (loc ++ mS K vc vt cs S)) (hL : B1 S cs) (H : J5 (ref, e) S = some p) :
  Calls prog 112 #[jP K.g, .int .i64 ref, .int .i64 e] w (C0 p.1 (fun _ v => v = .tuple #[]) (B1 p.2) (fun cs => loc ++ mS K vc vt cs p.2) w0 F0) := by
 letI := Co
 unfold J5 at H
 refine C9 func112 ntmps112 fun _ F1 => ?_
 split at H <;> rename_i h1
 ·cases H
  refine zt F1 h1 fun _ F2 => ?_
  exact Hn F2 (Ex s0) fun w2 s2 => Br rfl F2 (rP (y := cs) rfl hL s2)
 refine zf F1 (Bool.eq_false_iff.2 h1) fun _ F2 => ?_
 refine DG (extra := []) F2 (C5 s0 hL H) fun w y a hC2 hs F3 he => ?_
 refine zw F3 fun _ F4 => ?_
 exact rN F4 he rfl hC2 hs
theorem get_at {ref i : Int} {p : Int × Int} (s0 : SL w0 F0 w (loc ++ mS K vc vt cs S)) (H : M5 S ref i = some p) : Calls prog 108 #[jP K.gh, .int .i64 ref, .int .i64 i] w (AN fun u w_ => u = .tuple ⟨[.int .i64 p.1, .int .i64 p.2]⟩ ∧ SL w0 F0 w_ (loc ++ mS K vc vt cs S)) := by
 obtain ⟨os, hl, s1⟩ := SL.hop s0
 refine (WP s1 hl H).mono ?_
 rintro e w' ⟨v, rfl, hv, hq⟩
 exact ⟨v, rfl, hv, SL.hsh hl hq⟩
theorem Pe {ref i : Int} {p : Re Int × MS} (s0 : SL w0 F0 w (loc ++ mS K vc vt cs S)) (H : IH ref i S = some p) :
  Calls prog 117 #[jP K.g, .int .i64 ref, .int .i64 i] w (C0 p.1 (fun x v => v = .int .i64 x) (fun _ : Unit => p.2 = S) (fun _ => loc ++ mS K vc vt cs S) w0 F0) := by
 letI := Co
 unfold IH at H
 obtain ⟨q, hq, H1⟩ := bind_ok H
 refine C9 func117 ntmps117 fun _ F1 => ?_
 refine AE F1 (SL.mb s0) m0 fun _ F2 => ?_
 refine AU F2 (get_at s0 hq) fun v1 w1 _ hS F3 => ?_
 obtain ⟨rfl, s1⟩ := hS
 refine zw F3 fun _ F4 => ?_
 split at H1 <;> rename_i h1
 ·cases H1
  refine zt F4 h1 fun _ F5 => ?_
  exact Hn F5 (Ex s1) fun w2 s2 => Br rfl F5 (rP (y := ()) rfl rfl s2)
 cases H1
 refine zf F4 (Bool.eq_false_iff.2 h1) fun _ F5 => ?_
 exact rE (y := ()) F5 rfl rfl rfl s1
theorem SG {ref i v0 : Int} {p : Int × MS} (s0 : SL w0 F0 w (loc ++ mS K vc vt cs S)) (H : FU S ref i v0 = some p) :
  Calls prog 111 #[jP K.gh, .int .i64 ref, .int .i64 i, .int .i64 v0] w (AN fun u w_ => u = .int .i64 p.1 ∧ SL w0 F0 w_ (loc ++ mS K vc vt cs p.2)) := by
 obtain ⟨os, hl, s1⟩ := SL.hop s0
 refine (WL s1 hl H).mono ?_
 rintro e w' ⟨v, rfl, hv, hq⟩
 refine ⟨v, rfl, hv, ?_⟩
 have hS : p.2.calls = S.calls ∧ p.2.told = S.told ∧ p.2.A4.length = S.A4.length ∧ IE K vc vt p.2 = IE K vc vt S := by
  unfold FU at H
  obtain ⟨o, hx, H1⟩ := bind_ok H
  repeat' split at H1
  all_goals first
   | (cases H1; exact ⟨rfl, rfl, rfl, rfl⟩)
   | (obtain ⟨z, hz, H2⟩ := bind_ok H1; cases H2; exact ⟨rfl, rfl, by simp, rfl⟩)
 refine SL.hsh (os := os) (by rw [hl, hS.2.2.1]) ?_
 unfold Nw
 rw [hS.1, hS.2.1, hS.2.2.2]
 exact hq
end
end Go.Proofs.YtpnacdckamiedaaGreat
namespace Go.Proofs.YtpnacdckamiedaaGreat
open Go Go.RowKit Go.Pv Go.Proofs.Tryz
theorem J9 : Dy prog 23 69 5 80 (Gb 5) = true := by kernel_rfl
theorem Rn : FD prog 69 2 3 1 = true := by kernel_rfl
theorem Vr : (prog.info? 106).bind (·.zero) = some (.agg ⟨[.int .i64 0, .int .i64 0, .slice none 0 0, .slice none 0 0]⟩) := by kernel_rfl
theorem Xy : HH prog 106 [(0, 1), (1, 1), (2, 1), (3, 1)] = true := by kernel_rfl
theorem Ub : (prog.info? 95).map (·.size) = some 1 := by kernel_rfl
def HK : Cq := ⟨.slice none 0 0, rfl⟩
section
variable {w : World} {K : MK} {vc vt : Value} {cs : Lay} {S : MS} {w0 : World} {F0 : List Nat} {loc : List Ck}
theorem NZ {fn : Int} {va : Value} {args : List MV} {S' : MS} (s0 : SL w0 F0 w (loc ++ mS K vc vt cs S)) (hl : cs.length = S.calls.length) (hI : K.In w0 F0 S.m) (hva : Sl BP va args ∈ loc) (H : Ep fn args S = some S') :
  Calls prog 44 #[jP K.g, .int .i64 fn, va] w (AN fun u w_ => u = .tuple #[] ∧ ∃ vc' cs', cs'.length = S'.calls.length ∧ SL w0 F0 w_ (loc ++ mS K vc' vt cs' S')) := by
 letI := Co
 unfold Ep at H
 obtain ⟨f, hf, H1⟩ := bind_ok H
 obtain ⟨l, hk, H2⟩ := bind_ok H1
 clear H H1
 split at H2 <;> rename_i hlim <;> cases H2
 refine C9 func44 ntmps44 fun _ F1 => ?_
 refine AE F1 (SL.mb s0) m0 fun _ F2 => ?_
 obtain ⟨ad, ccs, G, hI2, hC, hR, hG⟩ := hI.f.idx J9 rfl hf
 obtain ⟨fv1, fv2, rfl, hRf⟩ := C2 hR hG
 refine sx F2 (hI2 _ _ _ _ _ _ _ _ _ _ rfl rfl) fun _ F3 => ?_
 refine MU F3 Rn D1 (hC _ _ s0) fun _ F4 => ?_
 refine LY DY (⟨0, 0⟩ : MV) F4 s0 FZ rfl rfl Cm rfl rfl rfl hk rfl fun v w1 _ F5 s1 => ?_
 refine zw F5 fun _ F6 => ?_
 obtain ⟨G2, hG2⟩ := s1.Bm (T := BP) (v := va) (l := args) (.tail _ (List.mem_append_left _ hva))
 refine Rr DY F6 s1 FZ rfl rfl rfl rfl hG2 rfl fun w2 _ F7 s2 => ?_
 refine zw F7 fun _ F8 => ?_
 have s3 := SL.mb (loc := Sl BP v (FC l args) :: loc) s2
 refine AE F8 s3 m0 fun _ F9 => ?_
 have hone := Aj (s2.form m0)
 refine zx F9 (AP (vs := [.int .i64 fn, v]) Vr Xy rfl (cs := [.int .i64 fn, .int .i64 0, v, .slice none 0 0]) (Dc rfl rfl (by simp) (Dc rfl (AG (s2.form m0)) (by simp) CQ))) fun _ F10 => ?_
 refine B7 F10 (s3.C6 G4 ⟨fn, 0, ⟨v, hone⟩, HK⟩) MY rfl rfl rfl rfl rfl fun u w3 _ F11 s4 => ?_
 obtain ⟨G3, hG3⟩ := s4.Bm m0
 have happ : app 2199023255552 (Bb cs S.calls).reverse [(⟨fn, 0, ⟨v, hone⟩, HK⟩ : CR)] = some ((Bb cs S.calls).reverse ++ [⟨fn, 0, ⟨v, hone⟩, HK⟩]) := by
  unfold app
  rw [Ab (by rw [Ez hl, Y2]; simpa using hlim)]
 refine Ba G4 F11 s4.f2 MY rfl rfl rfl rfl hG3 rfl rfl happ rfl fun vc2 w4 _ F12 s5 => ?_
 refine zw F12 fun _ F13 => ?_
 refine AZ F13 s5.f2 rfl rfl Ub (AG (s5.form m0)) (Aj (s5.form m0)) rfl fun w5 _ F14 s6 => ?_
 refine zw F14 fun _ F15 => ?_
 refine Kd F15 rfl ⟨_, rfl, rfl, vc2, (⟨v, hone⟩, HK) :: cs, by simp [hl], ?_⟩
 have s7 := SL.BF (T := BP) s6.f2.drop
 exact SL.comm (qs := mS K vc2 vt ((⟨v, hone⟩, HK) :: cs) { S with calls := ⟨fn, 0, FC l args, []⟩ :: S.calls }) (SL.Mh (a := ⟨v, hone⟩) (b := HK) (c := ⟨fn, 0, FC l args, []⟩) (r := S.calls) s7.f5.f5.f4.f4.f5.f5.f6 rfl)
end
end Go.Proofs.YtpnacdckamiedaaGreat
namespace Go.Proofs.YtpnacdckamiedaaGreat
open Go Go.RowKit Go.Pv Go.Proofs.Tryz
noncomputable def IZ (f : A3) (st : Int × List MV × MS) : Option ((Int × List MV × MS) ⊕ (Re (List MV) × MS)) :=
 if decide (st.1 ≥ 0) = true then (idx f.Sig.Ai st.1).bind fun t => (DD t st.2.2).bind fun q => match q.1 with
  | .no e u v => some (.inr (.no e u v, q.2))
  | .ok x => (idx st.2.1 st.1).bind fun _ => some (.inl (wr (st.1 - 1), st.2.1.set st.1.toNat x, q.2))
 else some (.inr (.ok st.2.1, st.2.2))
noncomputable def Kq (fn : Int) : Mm Unit := fun s => Mb (Bc (decide (fn < (s.m.Funcs.length : Int))) s) fun _ s => (idx s.m.Funcs fn).bind fun f => (Ol 16 (f.Sig.Ai.length : Int) (⟨0, 0⟩ : MV)).bind fun l =>
 (Ay (IZ f) (wr ((l.length : Int) - 1), l, s)).bind fun q => Mb (some q) fun args s => Mb (if ((f.Sig.Result.toNat : Int) != 0) = true then Ia s else some (.ok (), s)) fun _ s =>
  if ((s.calls.length : Int) == 64) = true then GL 7 s else (Ep fn args s).bind fun s' => some (.ok (), s')
theorem PP : El prog 69 5 = true := by kernel_rfl
theorem NU : (prog.info? 69).bind (·.zero) = some (.agg ⟨[.string ⟨⟨[]⟩⟩, .slice none 0 0, .int .u8 0, .int .i64 0, .slice none 0 0]⟩) := by kernel_rfl
theorem Sg : (prog.info? 69).map (·.size) = some 5 := by kernel_rfl
theorem RA : Dy prog 63 64 1 1 (Gb 1) = true := by kernel_rfl
theorem ND : Do prog 64 = true := by kernel_rfl
def P9 (K : MK) (loc : List Ck) (p : Re Unit × MS) (w : World) (F : List Nat) : Ending → World → Prop := C0 p.1 (fun _ v => v = .tuple #[]) (fun y : Value × Value × Lay => y.2.2.length = p.2.calls.length) (fun y => loc ++ mS K y.1 y.2.1 y.2.2 p.2) w F
section
variable {w : World} {K : MK} {vc vt : Value} {cs : Lay} {S : MS} {w0 : World} {F0 : List Nat} {loc : List Ck}
theorem W1 {fn : Int} {p : Re Unit × MS} (s0 : SL w0 F0 w (loc ++ mS K vc vt cs S)) (hL : B1 S cs) (hI : K.In w0 F0 S.m) (H : Kq fn S = some p) :
  Calls prog 72 #[jP K.g, .int .i64 fn] w (P9 K loc p w0 F0) := by
 letI := Co
 unfold Kq at H
 obtain ⟨A0, k0, e0⟩ := fR hI.f s0
 refine C9 func72 ntmps72 fun _ F1 => ?_
 refine AE F1 (SL.mb s0) m0 fun _ F2 => ?_
 refine zx F2 (Ao rfl underlying23 ⟨A0, k0, e0⟩) fun _ F3 => ?_
 have hst := Dm (decide (fn < (S.m.Funcs.length : Int))) s0
 rcases AQ H with ⟨e, t, q, S1, hr, rfl⟩ | ⟨_, S1, hr, H1⟩ <;> unfold Bc at hr <;> split at hr <;> rename_i hb <;> cases hr
 ·rw [Ac hb] at hst
  exact kn F3 hst fun w3 _ _ s4 => rP (y := (vc, vt, cs)) rfl hL.1 s4
 rw [Ab hb] at hst
 clear H
 refine kc F3 hst fun v1 w1 _ _ hv _ s1 F4 => ?_
 obtain ⟨f, hf, H2⟩ := bind_ok H1
 obtain ⟨l, hk, H3⟩ := bind_ok H2
 obtain ⟨q, hq, H4⟩ := bind_ok H3
 clear H1 H2 H3
 refine zw F4 fun _ F5 => ?_
 refine AE F5 (SL.mb s1) m0 fun _ F6 => ?_
 obtain ⟨ad, ccs, G, hI2, hC, hR, hG⟩ := hI.f.idx J9 rfl hf
 obtain ⟨fv1, fv2, rfl, hR1, hR2⟩ := C2 hR hG
 refine sx F6 (hI2 _ _ _ _ _ _ _ _ _ _ rfl rfl) fun _ F7 => ?_
 refine zx F7 (Be PP rfl (hC _ _ s1) rfl) fun _ F8 => ?_
 refine An F8 s1 NU rfl rfl fun g4 w2 _ F9 s2 => ?_
 refine A9 (ds := [.string ⟨⟨f.Name⟩⟩, fv1, .int .u8 (f.Sig.Result.toNat : Int), .int .i64 f.Ak, fv2]) F9 s2 rfl rfl Sg (Af rfl (Af (Aj (fR hR1 s2)) (Af rfl (Af rfl (Af (Aj (fR hR2 s2)) AM))))) rfl fun w3 _ F10 s3 => ?_
 refine zw F10 fun _ F11 => ?_
 refine AE F11 s3 m0 fun _ F12 => ?_
 obtain ⟨A1, k1, e1⟩ := fR hR1 s3
 refine zx F12 (Ao rfl underlying63 ⟨A1, k1, e1⟩) fun _ F13 => ?_
 refine LY DY (⟨0, 0⟩ : MV) F13 s3 FZ rfl rfl Cm rfl rfl rfl hk rfl fun va w4 _ F14 s4 => ?_
 refine zw F14 fun _ F15 => ?_
 obtain ⟨A2, k2, e2⟩ := s4.form m0
 refine zx F15 (Ao rfl underlying104 ⟨A2, k2, e2⟩) fun _ F16 => ?_
 refine Dk (IZ f) (fun s a w_ => Fr a 65 [(0, jP K.g), (1, .int .i64 fn), (4, .pointer (some ⟨g4, 0, none⟩)), (5, va), (6, .int .i64 s.1)] ∧ s.2.2.m = S.m ∧ ∃ cs1, B1 s.2.2 cs1 ∧ SL w0 F0 w_ (Sl BP va s.2.1 :: Ae g4 69 [.string ⟨⟨f.Name⟩⟩, fv1, .int .u8 (f.Sig.Result.toNat : Int), .int .i64 f.Ak, fv2] :: loc ++ mS K vc vt cs1 s.2.2)) hq ⟨F16.sb, rfl, cs, hL, s4⟩ ?_
 rintro ⟨j, args, S1⟩ a2 w5 ⟨F18, hm, cs1, hL1, s5⟩ o Hb hr
 dsimp only at hm hL1 s5
 unfold IZ at Hb
 dsimp only at Hb
 refine zc F18 fun _ F19 => ?_
 split at Hb <;> rename_i hj
 ·refine zt F19 hj fun _ F20 => ?_
  obtain ⟨t, ht, Hb1⟩ := bind_ok Hb
  obtain ⟨⟨r1, S2⟩, hp, Hb2⟩ := bind_ok Hb1
  clear Hb Hb1
  refine AE F20 s5 m1 fun _ F21 => ?_
  obtain ⟨ad3, hI3, hC3⟩ := hR1.Qj Flat.u8 RA rfl ht
  refine zx F21 (hI3 _ _ _ _ _ _ _ _ _ _ rfl rfl) fun _ F22 => ?_
  refine zx F22 (Ar ND rfl (by have := hC3 _ _ s5 0 _ rfl; rwa [add_zero'] at this)) fun _ F23 => ?_
  have hc := EF (loc := Sl BP va args :: Ae g4 69 [.string ⟨⟨f.Name⟩⟩, fv1, .int .u8 (f.Sig.Result.toNat : Int), .int .i64 f.Ak, fv2] :: loc) s5 hL1 (hm ▸ hI) hp
  cases r1 with
  | no e u v =>
   cases Hb2
   have := hr _ rfl
   subst this
   cases H4
   exact kn F23 hc fun w6 y hCy s6 => rP (y := (vc, vt, y)) rfl hCy.1 (SL.drop (SL.drop s6))
  | ok x =>
   obtain ⟨z, hz, Hb3⟩ := bind_ok Hb2
   cases Hb3
   refine kc F23 hc fun v3 w6 _ y hv hCy s6 F24 => ?_
   obtain rfl := hv
   obtain ⟨ad4, hI4, hE4⟩ := Gm DY s6 m0 FZ rfl hz
   refine zx F24 (hI4 _ _ _ _ _ _ _ _ _ _ rfl rfl) fun _ F25 => ?_
   refine MM DY (y' := x) F25 s6 hE4 hz rfl rfl rfl Eg fun w7 _ F26 s7 => ?_
   refine zw F26 fun _ F27 => ?_
   exact ⟨_, rfl, F27.sb, (G0 hp).trans hm, y, hCy, s7⟩
 ·cases Hb
  have := hr _ rfl
  subst this
  have H5 : Mb (if ((f.Sig.Result.toNat : Int) != 0) = true then Ia S1 else some (.ok (), S1)) (fun _ s => if ((s.calls.length : Int) == 64) = true then GL 7 s else (Ep fn args s).bind fun s' => some (.ok (), s')) = some p := H4
  refine zf F19 (Bool.eq_false_iff.2 hj) fun _ F20 => ?_
  refine AE F20 s5 m1 fun _ F21 => ?_
  split at H5 <;> rename_i h0
  ·refine zt F21 h0 fun _ F22 => ?_
   rcases AQ H5 with ⟨e, u, v, S2, hr2, rfl⟩ | ⟨_, S2, hr2, H6⟩ <;> have hc := N2 (loc := Sl BP va args :: Ae g4 69 [.string ⟨⟨f.Name⟩⟩, fv1, .int .u8 (f.Sig.Result.toNat : Int), .int .i64 f.Ak, fv2] :: loc) s5 hL1.1 hL1.2 hr2
   ·exact kn F22 hc fun w6 y hCy s6 => rP (y := (vc, vt, cs1)) rfl (by have : S2 = S1 := hCy; rw [this]; exact hL1.1) (by have : S2 = S1 := hCy; rw [this]; exact SL.drop (SL.drop s6))
   clear H5
   refine kc F22 hc fun v3 w6 _ y hv hCy s6 F24 => ?_
   obtain rfl : S2 = S1 := hCy
   refine zw F24 fun _ F25 => ?_
   have s9 := SL.mb (loc := Sl BP va args :: Ae g4 69 [.string ⟨⟨f.Name⟩⟩, fv1, .int .u8 (f.Sig.Result.toNat : Int), .int .i64 f.Ak, fv2] :: loc) s6
   refine AE F25 s9 m0 fun _ F30 => ?_
   obtain ⟨A5, k5, e5⟩ := s9.form (T := T_craw) m1
   rw [Ez hL1.1] at e5
   refine zx F30 (Ao rfl underlying95 ⟨A5, k5, e5⟩) fun _ F31 => ?_
   split at H6 <;> rename_i h64
   ·cases H6
    refine zt F31 h64 fun _ F32 => ?_
    exact Hn F32 (Ex s6) fun w9 s10 => Br rfl F32 (rP (y := (vc, vt, cs1)) rfl hL1.1 (SL.drop (SL.drop s10)))
   refine zf F31 (Bool.eq_false_iff.2 h64) fun _ F32 => ?_
   obtain ⟨S9, hen, H7⟩ := bind_ok H6
   cases H7
   refine AU F32 (NZ (va := va) (loc := Sl BP va args :: Ae g4 69 [.string ⟨⟨f.Name⟩⟩, fv1, .int .u8 (f.Sig.Result.toNat : Int), .int .i64 f.Ak, fv2] :: loc) s6 hL1.1 (hm ▸ hI) (.head _) hen) fun v9 w9 _ hS F33 => ?_
   obtain ⟨rfl, vc9, cs9, hl9, s10⟩ := hS
   refine zw F33 fun _ F34 => ?_
   exact rN (y := (vc9, vt, cs9)) F34 rfl rfl hl9 (SL.drop (SL.drop s10))
  ·have H6 : (if ((S1.calls.length : Int) == 64) = true then GL 7 S1 else (Ep fn args S1).bind fun s' => some (.ok (), s')) = some p := H5
   refine zf F21 (Bool.eq_false_iff.2 h0) fun _ F22 => ?_
   have s9 := SL.mb (loc := Sl BP va args :: Ae g4 69 [.string ⟨⟨f.Name⟩⟩, fv1, .int .u8 (f.Sig.Result.toNat : Int), .int .i64 f.Ak, fv2] :: loc) s5
   refine AE F22 s9 m0 fun _ F30 => ?_
   obtain ⟨A5, k5, e5⟩ := s9.form (T := T_craw) m1
   rw [Ez hL1.1] at e5
   refine zx F30 (Ao rfl underlying95 ⟨A5, k5, e5⟩) fun _ F31 => ?_
   split at H6 <;> rename_i h64
   ·cases H6
    refine zt F31 h64 fun _ F32 => ?_
    exact Hn F32 (Ex s5) fun w9 s10 => Br rfl F32 (rP (y := (vc, vt, cs1)) rfl hL1.1 (SL.drop (SL.drop s10)))
   refine zf F31 (Bool.eq_false_iff.2 h64) fun _ F32 => ?_
   obtain ⟨S9, hen, H7⟩ := bind_ok H6
   cases H7
   refine AU F32 (NZ (va := va) (loc := Sl BP va args :: Ae g4 69 [.string ⟨⟨f.Name⟩⟩, fv1, .int .u8 (f.Sig.Result.toNat : Int), .int .i64 f.Ak, fv2] :: loc) s5 hL1.1 (hm ▸ hI) (.head _) hen) fun v9 w9 _ hS F33 => ?_
   obtain ⟨rfl, vc9, cs9, hl9, s10⟩ := hS
   refine zw F33 fun _ F34 => ?_
   exact rN (y := (vc9, vt, cs9)) F34 rfl rfl hl9 (SL.drop (SL.drop s10))
end
end Go.Proofs.YtpnacdckamiedaaGreat
namespace Go.Proofs.YtpnacdckamiedaaGreat
open Go Go.RowKit Go.Pv Go.Proofs.Tryz
def GE : Mm Unit := fun s => match s.calls with
 | [] => none
 | c :: _ => Bc ((c.stack.length : Int) == 0) s
def IW : Mm Unit := fun s => match s.calls with
 | [] => none
 | _ :: r => some (.ok (), { s with calls := r })
noncomputable def KF : Mm Unit := fun s => match s.calls with
 | [] => none
 | c :: _ => (idx s.m.Funcs c.fn).bind fun f => Mb (if ((f.Sig.Result.toNat : Int) != 0) = true then DD f.Sig.Result s else some (.ok ⟨0, 0⟩, s)) fun v s => Mb (GE s) fun _ s =>
  if ((s.calls.length : Int) == 1) = true then some (.no 0 0 v.n, s) else Mb (IW s) fun _ s => if ((f.Sig.Result.toNat : Int) != 0) = true then (if FH s = true then Cb v.kind v.n s else none) else some (.ok (), s)
theorem LP : FD prog 69 1 1 2 = true := by kernel_rfl
theorem Vm : FD prog 66 1 1 1 = true := by kernel_rfl
theorem Ri {cs : Lay} {r : List MC} {a b : Cq} {c : MC} (hl : cs.length = r.length) : FQ (Bb ((a, b) :: cs) (c :: r)).reverse 0 (((c :: r).length : Int) - 1) = some (Bb cs r).reverse := by
 have e : (Bb ((a, b) :: cs) (c :: r)).reverse = (Bb cs r).reverse ++ [⟨c.fn, c.at_, a, b⟩] := by simp [Bb]
 have h := Ez hl
 unfold FQ
 rw [e, Ab (by simp only [Y0, Y2, Y5, h]; omega)]
 have e2 : ((((c :: r).length : Int) - 1)).toNat = (Bb cs r).reverse.length := by simp only [Y5, h]; omega
 rw [e2]
 simp
section
variable {w : World} {K : MK} {vc vt : Value} {cs : Lay} {S : MS} {w0 : World} {F0 : List Nat} {loc : List Ck}
theorem W5 {p : Re Unit × MS} (s0 : SL w0 F0 w (loc ++ mS K vc vt cs S)) (hL : B1 S cs) (hI : K.In w0 F0 S.m) (H : KF S = some p) :
  Calls prog 73 #[jP K.g] w (P9 K loc p w0 F0) := by
 letI := Co
 unfold KF at H
 split at H
 ·cases H
 rename_i c r hc
 obtain ⟨f, hf, H1⟩ := bind_ok H
 clear H
 refine C9 func73 ntmps73 fun _ F1 => ?_
 refine BH (fun w_ => SL w0 F0 w_ (loc ++ mS K vc vt cs S)) [] Cn (Ce [0, 1, 2, 3, 4, 5] F1 (Bl rfl) s0.drew (QI.ev 4 rfl <| QI.op rfl (fun w hw => Ar (by kernel_rfl) rfl ((SL.mb hw).Aq m0 (o := 3) rfl)) rfl <| QI.ev 1 rfl <| QI.nil) fun _ F2 => ?_)
 refine BN 6 rfl (AU F2 (HN s0.drew hL.1 hc (GQ hL.2 hc)) fun v1 w1 _ hS F3 => A8 ⟨fun _ => hS.2, ?_⟩)
 obtain ⟨⟨ad, rfl, hT⟩, s1⟩ := hS
 obtain ⟨a, b, cs', rfl, hl', _⟩ := En (hc ▸ hL.1)
 have hC := fun w (hw : SL w0 F0 w (loc ++ mS K vc vt ((a, b) :: cs') S)) => SL.GR hw hc hl' hT
 obtain ⟨ad3, ccs, G, hI2, hC3, hR, hG⟩ := hI.f.idx J9 rfl hf
 obtain ⟨fv1, fv2, rfl, hR1, hR2⟩ := C2 hR hG
 refine Ce [7, 8, 9, 10, 11, 12, 13, 14] F3 (Bl rfl) s1 (QI.ev 1 rfl <| QI.fl NH D1 hC rfl rfl rfl rfl rfl rfl <| QI.ix hI2 rfl <| QI.op rfl (fun w hw => Di LP rfl) rfl <| QI.op rfl (fun w hw => PX Vm rfl rfl) rfl <| QI.op rfl (fun w hw => Ar ND rfl ((hC3 w _ hw).at_ (o := 2) rfl)) rfl <| QI.ev 1 rfl <| QI.nil) fun _ F4 => ?_
 refine BE ?_
 refine ze F4 fun _ F5 => ?_
 refine An F5 s1 Cm rfl rfl fun g1 w2 _ F6 s2 => ?_
 refine zw F6 fun _ F7 => ?_
 split at H1 <;> rename_i h0
 ·refine zt F7 h0 fun _ F8 => ?_
  rcases AQ H1 with ⟨e, u, v, S1, hr, rfl⟩ | ⟨x, S1, hr, H2⟩ <;> have hcp := EF (loc := Ae g1 122 [.int .i64 0, .int .i64 0] :: loc) s2 hL hI hr
  ·exact kn F8 hcp fun w3 y hCy s4 => rP (y := (vc, vt, y)) rfl hCy.1 (SL.drop s4)
  clear H1
  refine kc F8 hcp fun v3 w3 _ y hv hCy s3 F9 => ?_
  obtain rfl := hv
  refine A9 (ds := [.int .i64 x.kind, .int .i64 x.n]) F9 s3 rfl rfl Eg (List.all_eq_true.1 rfl) rfl fun w5 _ F10 s6 => ?_
  refine zw F10 fun _ F11 => ?_
  have hne : ∃ c1 r1, S1.calls = c1 :: r1 := by
   rcases h : S1.calls with _ | ⟨c1, r1⟩
   ·exfalso
    unfold GE at H2
    rw [h] at H2
    cases H2
   ·exact ⟨c1, r1, rfl⟩
  obtain ⟨c1, r1, hc1⟩ := hne
  refine AU F11 (HN (loc := Ae g1 122 [.int .i64 x.kind, .int .i64 x.n] :: loc) s6 hCy.1 hc1 (GQ hCy.2 hc1)) fun v2 w4 _ hS F20 => ?_
  obtain ⟨⟨ad2, rfl, hT2⟩, s20⟩ := hS
  obtain ⟨a2, b2, cs2, hcs2, hl2, _⟩ := En (hc1 ▸ hCy.1)
  have hLy := hCy
  rw [hcs2] at s20 hLy
  refine zw F20 fun _ F21 => ?_
  refine MU F21 FI Gs (SL.GR s20 hc1 hl2 hT2) fun _ F22 => ?_
  obtain ⟨A6, k6, e6⟩ := (SL.mop (SL.comm s20) hc1).form m1
  refine zx F22 (Ao rfl underlying104 ⟨A6, k6, e6⟩) fun _ F23 => ?_
  have hme : GE S1 = Bc ((c1.stack.length : Int) == 0) S1 := by unfold GE; rw [hc1]
  rw [hme] at H2
  have hst := Dm (loc := Ae g1 122 [.int .i64 x.kind, .int .i64 x.n] :: loc) ((c1.stack.length : Int) == 0) s20
  rcases AQ H2 with ⟨e, u, v, S2, hr2, rfl⟩ | ⟨_, S2, hr2, H3⟩ <;> unfold Bc at hr2 <;> split at hr2 <;> rename_i hb <;> cases hr2
  ·rw [Ac hb] at hst
   exact kn F23 hst fun w5 _ _ s21 => rP (y := (vc, vt, (a2, b2) :: cs2)) rfl hLy.1 (SL.drop s21)
  rw [Ab hb] at hst
  refine kc F23 hst fun v5 w5 _ _ hv _ s21 F24 => ?_
  refine zw F24 fun _ F25 => ?_
  have s22 := SL.mb (loc := Ae g1 122 [.int .i64 x.kind, .int .i64 x.n] :: loc) s21
  refine AE F25 s22 m0 fun _ F26 => ?_
  obtain ⟨A7, k7, e7⟩ := s22.form (T := T_craw) m1
  rw [Ez hLy.1] at e7
  refine zx F26 (Ao rfl underlying95 ⟨A7, k7, e7⟩) fun _ F27 => ?_
  split at H3 <;> rename_i h1
  ·cases H3
   refine zt F27 h1 fun _ F28 => ?_
   refine AE F28 s21 m0 fun _ F29 => ?_
   refine zx F29 (AP (vs := [.int .i64 x.n]) JZ PT rfl (cs := [.int .i64 0, .int .i64 0, .int .i64 x.n]) (by rfl)) fun _ F30 => ?_
   refine zx F30 (I5 rfl underlying97 (fun _ h => by cases h)) fun _ F31 => ?_
   exact Jz F31 rfl (Br rfl F31 (rP (y := (vc, vt, (a2, b2) :: cs2)) rfl hLy.1 (SL.drop s21)))
  refine zf F27 (Bool.eq_false_iff.2 h1) fun _ F28 => ?_
  have hcut : FQ (Bb ((a2, b2) :: cs2) S1.calls).reverse 0 (wr ((S1.calls.length : Int) - 1)) = some (Bb cs2 r1).reverse := by
   have hf2 := hLy.2
   unfold FH at hf2
   rw [eq_of_beq hf2, hc1]
   exact Ri hl2
  obtain ⟨vc9, hSc, s24⟩ := SL.Qg s22.f1 MY rfl hcut none (some (wr ((S1.calls.length : Int) - 1))) (.inr ⟨rfl, rfl⟩) (.inl rfl)
  refine BH (fun w_ => SL w0 F0 w_ (Sl T_craw vc9 (Bb cs2 r1).reverse :: Ae K.g 99 (IE K vc vt S1) :: Fo (HU ((a2, b2) :: cs2) S1.calls) :: Sl (Ty.int .i64) vt S1.told :: Oj K S1 :: Ae g1 122 [.int .i64 x.kind, .int .i64 x.n] :: loc)) [14] Cn (Ce [0, 1, 2, 3, 4, 5, 6, 7, 8, 9, 10, 11] F28 (Bl rfl) s24.drew (QI.ev 4 rfl <| QI.ld m1 rfl <| QI.ev 3 rfl <| QI.ld m1 rfl <| QI.op rfl (fun w hw => Ao rfl underlying95 ⟨A7, k7, e7⟩) rfl <| QI.ev 1 rfl <| QI.op rfl (fun w hw => hSc _ _ _ _ _ .i64 .i64 _ _ _ _ _ rfl trivial rfl) rfl <| QI.nil) fun _ F29 => ?_)
  refine Fw 12 rfl F29 s24.drew fun _ F30 => ?_
  refine Fw 13 rfl F30 s24.drew fun _ F31 => ?_
  refine BN 14 rfl (AZ F31 s24.drew.f1 rfl rfl Ub (AG (s24.form m0)) (Aj (s24.form m0)) rfl fun w6 _ F32 s25 => A8 ⟨fun h => by simp [Et] at h, BE ?_⟩)
  refine ze F32 fun _ F33 => ?_
  have s26 := s25.f2
  rw [hc1] at s26
  have s27 : SL w0 F0 w6 (mS K vc9 vt cs2 { S1 with calls := r1 } ++ (Ae g1 122 [.int .i64 x.kind, .int .i64 x.n] :: loc)) := (SL.drop (SL.drop (SL.UH s26))).f2.f2
  have s28 := SL.comm s27
  have hml : IW S1 = some (.ok (), { S1 with calls := r1 }) := by unfold IW; rw [hc1]
  rw [hml] at H3
  have H4 : (if FH { S1 with calls := r1 } = true then Cb x.kind x.n { S1 with calls := r1 } else none) = some p := H3
  split at H4 <;> rename_i hfw
  ·refine zt F33 h0 fun _ F34 => ?_
   refine AE F34 s28 m0 fun _ F35 => ?_
   refine AE F35 s28 m0 fun _ F36 => ?_
   have hpu := C5 (loc := Ae g1 122 [.int .i64 x.kind, .int .i64 x.n] :: loc) s28 ⟨hl2, hfw⟩ H4
   obtain ⟨rr, S5⟩ := p
   cases rr with
   | ok z =>
    refine kc F36 hpu fun v6 w7 _ y9 hv9 hC9 s29 F37 => ?_
    refine zw F37 fun _ F38 => ?_
    exact rN (y := (vc9, vt, y9)) F38 rfl rfl hC9.1 (SL.drop s29)
   | no e u v => exact kn F36 hpu fun w7 y9 hC9 s29 => rP (y := (vc9, vt, y9)) rfl hC9.1 (SL.drop s29)
  ·cases H4
 ·have H2 : Mb (GE S) (fun _ s => if ((s.calls.length : Int) == 1) = true then some (.no 0 0 0, s) else Mb (IW s) fun _ s => some (.ok (), s)) = some p := H1
  clear H1
  refine zf F7 (Bool.eq_false_iff.2 h0) fun _ F9 => ?_
  have s2' : SL w0 F0 w2 (Ae g1 122 [.int .i64 (0 : Int), .int .i64 (0 : Int)] :: loc ++ mS K vc vt ((a, b) :: cs') S) := s2
  have hne : ∃ c1 r1, S.calls = c1 :: r1 := by
   rcases h : S.calls with _ | ⟨c1, r1⟩
   ·exfalso
    unfold GE at H2
    rw [h] at H2
    cases H2
   ·exact ⟨c1, r1, rfl⟩
  obtain ⟨c1, r1, hc1⟩ := hne
  refine AU F9 (HN (loc := Ae g1 122 [.int .i64 (0 : Int), .int .i64 (0 : Int)] :: loc) s2' hL.1 hc1 (GQ hL.2 hc1)) fun v2 w4 _ hS F20 => ?_
  obtain ⟨⟨ad2, rfl, hT2⟩, s20⟩ := hS
  obtain ⟨a2, b2, cs2, hcs2, hl2, _⟩ := En (hc1 ▸ hL.1)
  have hLy := hL
  rw [hcs2] at s20 hLy
  refine zw F20 fun _ F21 => ?_
  refine MU F21 FI Gs (SL.GR s20 hc1 hl2 hT2) fun _ F22 => ?_
  obtain ⟨A6, k6, e6⟩ := (SL.mop (SL.comm s20) hc1).form m1
  refine zx F22 (Ao rfl underlying104 ⟨A6, k6, e6⟩) fun _ F23 => ?_
  have hme : GE S = Bc ((c1.stack.length : Int) == 0) S := by unfold GE; rw [hc1]
  rw [hme] at H2
  have hst := Dm (loc := Ae g1 122 [.int .i64 (0 : Int), .int .i64 (0 : Int)] :: loc) ((c1.stack.length : Int) == 0) s20
  rcases AQ H2 with ⟨e, u, v, S2, hr2, rfl⟩ | ⟨_, S2, hr2, H3⟩ <;> unfold Bc at hr2 <;> split at hr2 <;> rename_i hb <;> cases hr2
  ·rw [Ac hb] at hst
   exact kn F23 hst fun w5 _ _ s21 => rP (y := (vc, vt, (a2, b2) :: cs2)) rfl hLy.1 (SL.drop s21)
  rw [Ab hb] at hst
  refine kc F23 hst fun v5 w5 _ _ hv _ s21 F24 => ?_
  refine zw F24 fun _ F25 => ?_
  have s22 := SL.mb (loc := Ae g1 122 [.int .i64 (0 : Int), .int .i64 (0 : Int)] :: loc) s21
  refine AE F25 s22 m0 fun _ F26 => ?_
  obtain ⟨A7, k7, e7⟩ := s22.form (T := T_craw) m1
  rw [Ez hLy.1] at e7
  refine zx F26 (Ao rfl underlying95 ⟨A7, k7, e7⟩) fun _ F27 => ?_
  split at H3 <;> rename_i h1
  ·cases H3
   refine zt F27 h1 fun _ F28 => ?_
   refine AE F28 s21 m0 fun _ F29 => ?_
   refine zx F29 (AP (vs := [.int .i64 (0 : Int)]) JZ PT rfl (cs := [.int .i64 0, .int .i64 0, .int .i64 (0 : Int)]) (by rfl)) fun _ F30 => ?_
   refine zx F30 (I5 rfl underlying97 (fun _ h => by cases h)) fun _ F31 => ?_
   exact Jz F31 rfl (Br rfl F31 (rP (y := (vc, vt, (a2, b2) :: cs2)) rfl hLy.1 (SL.drop s21)))
  refine zf F27 (Bool.eq_false_iff.2 h1) fun _ F28 => ?_
  have hcut : FQ (Bb ((a2, b2) :: cs2) S.calls).reverse 0 (wr ((S.calls.length : Int) - 1)) = some (Bb cs2 r1).reverse := by
   have hf2 := hLy.2
   unfold FH at hf2
   rw [eq_of_beq hf2, hc1]
   exact Ri hl2
  obtain ⟨vc9, hSc, s24⟩ := SL.Qg s22.f1 MY rfl hcut none (some (wr ((S.calls.length : Int) - 1))) (.inr ⟨rfl, rfl⟩) (.inl rfl)
  refine BH (fun w_ => SL w0 F0 w_ (Sl T_craw vc9 (Bb cs2 r1).reverse :: Ae K.g 99 (IE K vc vt S) :: Fo (HU ((a2, b2) :: cs2) S.calls) :: Sl (Ty.int .i64) vt S.told :: Oj K S :: Ae g1 122 [.int .i64 (0 : Int), .int .i64 (0 : Int)] :: loc)) [14] Cn (Ce [0, 1, 2, 3, 4, 5, 6, 7, 8, 9, 10, 11] F28 (Bl rfl) s24.drew (QI.ev 4 rfl <| QI.ld m1 rfl <| QI.ev 3 rfl <| QI.ld m1 rfl <| QI.op rfl (fun w hw => Ao rfl underlying95 ⟨A7, k7, e7⟩) rfl <| QI.ev 1 rfl <| QI.op rfl (fun w hw => hSc _ _ _ _ _ .i64 .i64 _ _ _ _ _ rfl trivial rfl) rfl <| QI.nil) fun _ F29 => ?_)
  refine Fw 12 rfl F29 s24.drew fun _ F30 => ?_
  refine Fw 13 rfl F30 s24.drew fun _ F31 => ?_
  refine BN 14 rfl (AZ F31 s24.drew.f1 rfl rfl Ub (AG (s24.form m0)) (Aj (s24.form m0)) rfl fun w6 _ F32 s25 => A8 ⟨fun h => by simp [Et] at h, BE ?_⟩)
  refine ze F32 fun _ F33 => ?_
  have s26 := s25.f2
  rw [hc1] at s26
  have s27 : SL w0 F0 w6 (mS K vc9 vt cs2 { S with calls := r1 } ++ (Ae g1 122 [.int .i64 (0 : Int), .int .i64 (0 : Int)] :: loc)) := (SL.drop (SL.drop (SL.UH s26))).f2.f2
  have s28 := SL.comm s27
  have hml : IW S = some (.ok (), { S with calls := r1 }) := by unfold IW; rw [hc1]
  rw [hml] at H3
  have H4 : some (Re.ok (), { S with calls := r1 }) = some p := H3
  cases H4
  refine zf F33 (Bool.eq_false_iff.2 h0) fun _ F34 => ?_
  exact rN (y := (vc9, vt, cs2)) F34 rfl rfl hl2 (SL.drop s28)
end
end Go.Proofs.YtpnacdckamiedaaGreat
namespace Go.Proofs.YtpnacdckamiedaaGreat
open Go Go.RowKit Go.Pv Go.Proofs.Tryz
noncomputable def I3 (A B : Int) : Mm UInt8 := fun s => (De s.m.Classes A).bind fun l => Mb (Bc (if decide (A < (s.m.Classes.length : Int)) = true then decide (B < (l.length : Int)) else false) s) fun _ s => (idx l B).bind fun x => some (.ok x.Fv, s)
theorem RH : Do prog 22 = true := by kernel_rfl
theorem Sv : Dy prog 107 112 2 24 (Gb 2) = true := by kernel_rfl
theorem Pr : FD prog 112 1 1 1 = true := by kernel_rfl
section
variable {w : World} {K : MK} {vc vt : Value} {cs : Lay} {S : MS} {w0 : World} {F0 : List Nat} {loc : List Ck}
theorem Rp {i : Bs} {p : Re UInt8 × MS} (s0 : SL w0 F0 w (loc ++ mS K vc vt cs S)) (hI : K.In w0 F0 S.m) (H : I3 i.A i.B S = some p) :
  Calls prog 107 #[jP K.g, .agg ⟨Au i⟩] w (C0 p.1 (fun x v => v = .int .u8 (x.toNat : Int)) (fun _ : Unit => p.2 = S) (fun _ => loc ++ mS K vc vt cs S) w0 F0) := by
 letI := Co
 unfold I3 at H
 obtain ⟨l, hfl, H1⟩ := bind_ok H
 clear H
 obtain ⟨A0, k0, e0⟩ := fR hI.c s0
 refine C9 func107 ntmps107 fun _ F1 => ?_
 refine Bz F1 s0 rfl rfl rfl fun g1 w1 _ F2 s1 => ?_
 refine zw F2 fun _ F3 => ?_
 refine BH (fun w_ => SL w0 F0 w_ (Ae g1 130 (Au i) :: loc ++ mS K vc vt cs S)) [] Cn (Ce [0, 1, 2, 3, 4, 5, 6] F3 (Bl rfl) s1.drew (QI.ev 4 rfl <| QI.op rfl (fun w hw => Ar RH rfl ((SL.mb hw).Aq m0 (o := 2) rfl)) rfl <| QI.ev 1 rfl <| QI.ld m0 rfl <| QI.nil) fun _ F4 => ?_)
 refine BN 7 rfl (AU F4 (Kh (hI.c.Az s1.drew) hfl) fun v1 w2 _ hS F5 => A8 ⟨fun _ => ?_, ?_⟩)
 ·obtain ⟨u0, rfl, hq⟩ := hS
  exact SL.drop (s1.drew.add hq)
 obtain ⟨u0, rfl, hq⟩ := hS
 have s2 : SL w0 F0 w2 (Sl AW v1 l :: Ae g1 130 (Au i) :: loc ++ mS K vc vt cs S) := s1.drew.add hq
 refine Ce [8] F5 (Bl rfl) (SL.drop s2) (QI.ev 1 rfl <| QI.nil) fun _ F6 => ?_
 refine BE ?_
 refine ze F6 fun _ F7 => ?_
 obtain ⟨A1, k1, e1⟩ := s2.form m0
 have hst := fun ok => Dm (loc := Sl AW v1 l :: Ae g1 130 (Au i) :: loc) ok s2.drew
 rcases hb : decide (i.A < (S.m.Classes.length : Int)) with _ | _
 ·refine BH (fun w_ => SL w0 F0 w_ (Sl AW v1 l :: Ae g1 130 (Au i) :: loc ++ mS K vc vt cs S)) [] Cn (Ce [0, 1, 2, 3, 4, 5, 6, 7, 8, 9, 10, 11, 12, 13, 14, 15, 16] F7 (Bl rfl) s2.drew (QI.ev 2 rfl <| QI.ld m1 rfl <| QI.ev 4 rfl <| QI.op rfl (fun w hw => Ar RH rfl ((SL.mb hw).Aq m0 (o := 2) rfl)) rfl <| QI.op rfl (fun w hw => Ao rfl underlying22 ⟨A0, k0, e0⟩) rfl <| QI.ev 2 rfl <| QI.kn (dj := 24) rfl hb <| QI.ev 6 rfl <| QI.nil) fun _ F8 => ?_)
  have hok : (if decide (i.A < (S.m.Classes.length : Int)) = true then decide (i.B < (l.length : Int)) else false) = false := by rw [Ac (by rw [hb]; simp)]
  rw [hok] at H1
  rcases AQ H1 with ⟨e, u, v, S2, hr, rfl⟩ | ⟨_, S2, hr, H2⟩ <;> unfold Bc at hr <;> split at hr <;> rename_i hb2 <;> cases hr
  ·have hst' := hst (false)
   rw [Ac hb2] at hst'
   exact IP 17 F8 hst' fun w3 _ _ s4 => Br rfl F8 (rP (y := ()) rfl rfl (SL.drop (SL.drop s4)))
  have hst' := hst (false)
  rw [Ab hb2] at hst'
  refine IM 17 F8 hst' fun v3 w3 _ y hV _ s3 F9 => ⟨fun _ => s3, BE ?_⟩
  refine ze F9 fun _ F10 => ?_
  obtain ⟨x, hx, H3⟩ := bind_ok H2
  cases H3
  refine AE F10 s3 m1 fun _ F11 => ?_
  obtain ⟨ad3, hI3, hE3⟩ := Gm Cv s3 m0 Sv rfl hx
  refine sx F11 (hI3 _ _ _ _ _ _ _ _ _ _ rfl rfl) fun _ F12 => ?_
  refine MU F12 Pr ND (SL.GT Cv s3 m0 hE3 hx) fun _ F13 => ?_
  exact rE (y := ()) F13 rfl rfl rfl (SL.drop (SL.drop s3))
 ·refine BH (fun w_ => SL w0 F0 w_ (Sl AW v1 l :: Ae g1 130 (Au i) :: loc ++ mS K vc vt cs S)) [] Cn (Ce [0, 1, 2, 3, 4, 5, 6, 7, 8, 9, 10, 11, 12, 13, 14, 15, 16] F7 (Bl rfl) s2.drew (QI.ev 2 rfl <| QI.ld m1 rfl <| QI.ev 4 rfl <| QI.op rfl (fun w hw => Ar RH rfl ((SL.mb hw).Aq m0 (o := 2) rfl)) rfl <| QI.op rfl (fun w hw => Ao rfl underlying22 ⟨A0, k0, e0⟩) rfl <| QI.ev 2 rfl <| QI.kn (dj := 24) rfl hb <| QI.ev 1 rfl <| QI.gop rfl (fun w hw => Ar D1 rfl (hw.Aq m1 (o := 3) rfl)) rfl rfl rfl rfl rfl <| QI.ev 1 rfl <| QI.gop rfl (fun w hw => Ao rfl underlying107 ⟨A1, k1, e1⟩) rfl rfl rfl rfl rfl <| QI.ev 2 rfl <| QI.nil) fun _ F8 => ?_)
  have hok : (if decide (i.A < (S.m.Classes.length : Int)) = true then decide (i.B < (l.length : Int)) else false) = decide (i.B < (l.length : Int)) := by rw [Ab hb]
  rw [hok] at H1
  rcases AQ H1 with ⟨e, u, v, S2, hr, rfl⟩ | ⟨_, S2, hr, H2⟩ <;> unfold Bc at hr <;> split at hr <;> rename_i hb2 <;> cases hr
  ·have hst' := hst (decide (i.B < (l.length : Int)))
   rw [Ac hb2] at hst'
   exact IP 17 F8 hst' fun w3 _ _ s4 => Br rfl F8 (rP (y := ()) rfl rfl (SL.drop (SL.drop s4)))
  have hst' := hst (decide (i.B < (l.length : Int)))
  rw [Ab hb2] at hst'
  refine IM 17 F8 hst' fun v3 w3 _ y hV _ s3 F9 => ⟨fun _ => s3, BE ?_⟩
  refine ze F9 fun _ F10 => ?_
  obtain ⟨x, hx, H3⟩ := bind_ok H2
  cases H3
  refine AE F10 s3 m1 fun _ F11 => ?_
  obtain ⟨ad3, hI3, hE3⟩ := Gm Cv s3 m0 Sv rfl hx
  refine sx F11 (hI3 _ _ _ _ _ _ _ _ _ _ rfl rfl) fun _ F12 => ?_
  refine MU F12 Pr ND (SL.GT Cv s3 m0 hE3 hx) fun _ F13 => ?_
  exact rE (y := ()) F13 rfl rfl rfl (SL.drop (SL.drop s3))
end
end Go.Proofs.YtpnacdckamiedaaGreat
