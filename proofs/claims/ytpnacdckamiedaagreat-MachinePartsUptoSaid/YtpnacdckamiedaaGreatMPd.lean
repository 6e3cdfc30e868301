/- Lemmas, walks and laws that the row of this claim rests on, merged into few texts: part 4. -/
import Derived.Test.YtpnacdckamiedaaGreatMPc
set_option linter.unusedVariables false
set_option linter.unusedSimpArgs false
open Option renaming bind_some → YE
open List renaming length_append → YF, mem_append → YG, mem_singleton → YH, getElem_mem → YI, mem_of_getElem? → YJ
open Int renaming eq_ofNat_of_zero_le → YK
open Bool renaming and_eq_true → YL
namespace Go.Proofs.YtpnacdckamiedaaGreat
open Go Go.RowKit Go.Pv Go.Proofs.Tryz
theorem JS {w : World} {a0 : List UInt8} {r : Bool}  (H : DL a0 = some r) :
  Calls prog 129 #[.string ⟨⟨a0⟩⟩] w (AN fun u_ w_ => u_ = .bool r ∧ SL w [] w_ []) := by
 have s0 : SL w [] w [] := SL.Bf w
 refine BV func129 ntmps129 11 rfl rfl rfl fun _ F858 => ?_
 unfold DL at H
 obtain ⟨o1421, H1422, R1423⟩ := bind_ok H
 clear H
 refine BB (fun a w_ => ∃ p1424 : Unit, o1421 = .inr (p1424) ∧ Fr a 12 [] ∧ SL w [] w_ []) ?_ ?_
 ·have H := H1422
  refine gc 1 F858 rfl fun _ F858 => ?_
  refine Dk (BD a0) (fun s1425 a w_ => Fr a 12 [(0, .string ⟨⟨a0⟩⟩), (3, .int .u8 (s1425.toNat : Int))] ∧ SL w [] w_ []) H ?_ ?_
  ·exact ⟨F858.sb, s0⟩
  ·intro s1425 q1636 w1637 hI1638 o1635 H hr
   obtain ⟨F1633, s1634⟩ := hI1638
   replace H : BD a0 s1425 = some o1635 := H
   unfold BD at H
   refine gc 7 F1633 rfl fun _ F1644 => ?_
   refine AK F1644 H 7 4 rfl rfl rfl (fun hb1645 H _ F1689 => ?_) (fun hb1645 H _ F1646 => ?_)
   ·obtain ⟨x1687, hx1688, H⟩ := bind_ok H
    refine DW F1689 s1634 (KV    hx1688) 1 rfl rfl rfl rfl fun w1691 _ F1697 s1695 => ?_
    refine gx F1697 (Ln rfl rfl) 2 rfl rfl fun _ F1698 => ?_
    refine AK F1698 H 12 5 rfl rfl rfl (fun hb1699 H _ F1702 => ?_) (fun hb1699 H _ F1703 => ?_)
    ·cases H
     obtain rfl := hr _ rfl
     replace H := R1423
     try dsimp only at H
     cases H
     exact rt F1702 ⟨rfl, s1695⟩
    ·cases H
     refine gx F1703 (QF rfl rfl) 2 rfl rfl fun _ F1705 => ?_
     exact ⟨_, rfl, F1705.sb, s1695⟩
   ·cases H
    obtain rfl := hr _ rfl
    exact ⟨_, rfl, F1646.sb, s1634⟩
 ·intro q1708 w1709 hJ
  obtain ⟨p1424, rfl, F1706, s1707⟩ := hJ
  have H := R1423
  clear R1423 H1422
  try dsimp only at H
  cases H
  refine ge 7 F1706 rfl fun _ F1711 => ?_
  exact rt F1711 ⟨rfl, s1707⟩
end Go.Proofs.YtpnacdckamiedaaGreat
namespace Go.Proofs.YtpnacdckamiedaaGreat
open Go Go.RowKit Go.Pv Go.Proofs.Tryz
theorem Gz {w : World} {v0 : Value} {a0 : List Av} {a1 : List UInt8} {r : Bool} (hr0 : Rd AW w [] v0 a0) (H : E8 a0 a1 = some r) :
  Calls prog 130 #[v0, .string ⟨⟨a1⟩⟩] w (AN fun u_ w_ => u_ = .bool r ∧ SL w [] w_ []) := by
 have s0 : SL w [] w [] := SL.Bf w
 refine BV func130 ntmps130 11 rfl rfl rfl fun _ F882 => ?_
 unfold E8 at H
 obtain ⟨o1461, H1462, R1463⟩ := bind_ok H
 clear H
 refine BB (fun a w_ => ∃ p1464 : Unit, o1461 = .inr (p1464) ∧ Fr a 19 [] ∧ SL w [] w_ []) ?_ ?_
 ·have H := H1462
  refine gc 1 F882 rfl fun _ F882 => ?_
  refine Dk (Cz a0 a1) (fun s1465 a w_ => Fr a 19 [(0, v0), (1, .string ⟨⟨a1⟩⟩), (5, .int .i64 s1465)] ∧ SL w [] w_ []) H ?_ ?_
  ·exact ⟨F882.sb, s0⟩
  ·intro s1465 q1682 w1683 hI1684 o1681 H hr
   obtain ⟨F1679, s1680⟩ := hI1684
   replace H : Cz a0 a1 s1465 = some o1681 := H
   unfold Cz at H
   refine gc 5 F1679 rfl fun _ F1696 => ?_
   refine gx F1696 (Ao rfl underlying107 (fR hr0 s1680)) 3 rfl rfl fun _ F1698 => ?_
   refine AK F1698 H 8 4 rfl rfl rfl (fun hb1699 H _ F1743 => ?_) (fun hb1699 H _ F1700 => ?_)
   ·obtain ⟨x1738, hx1739, H⟩ := bind_ok H
    obtain ⟨ad1740, hi1741, hc1742⟩ := GG Cv (CU hr0 s1680) Fe rfl hx1739
    refine gi F1743 hi1741 0 rfl fun _ F1744 => ?_
    refine gx F1744 (Di N1 rfl) 0 rfl rfl fun _ F1745 => ?_
    refine gx F1745 (Ar Kg rfl (Cells.at_ hc1742 (o := 0) rfl)) 1 rfl rfl fun _ F1747 => ?_
    refine gx F1747 (Ln rfl rfl) 2 rfl rfl fun _ F1748 => ?_
    refine AK F1748 H 12 8 rfl rfl rfl (fun hb1749 H _ F1752 => ?_) (fun hb1749 H _ F1753 => ?_)
    ·cases H
     obtain rfl := hr _ rfl
     replace H := R1463
     try dsimp only at H
     cases H
     exact rt F1752 ⟨rfl, s1680⟩
    ·cases H
     exact ⟨_, rfl, F1753.sb, s1680⟩
   ·cases H
    obtain rfl := hr _ rfl
    exact ⟨_, rfl, F1700.sb, s1680⟩
 ·intro q1756 w1757 hJ
  obtain ⟨p1464, rfl, F1754, s1755⟩ := hJ
  have H := R1463
  clear R1463 H1462
  try dsimp only at H
  cases H
  refine ge 7 F1754 rfl fun _ F1759 => ?_
  exact rt F1759 ⟨rfl, s1755⟩
end Go.Proofs.YtpnacdckamiedaaGreat
namespace Go.Proofs.YtpnacdckamiedaaGreat
open Go Go.RowKit Go.Pv Go.Proofs.Tryz
theorem HO {w : World} {v0 : Value} {a0 : List Ad} {a1 : UInt8} {r : Bool} (hr0 : Rd Ag w [] v0 a0) (H : Dw a0 a1 = some r) :
  Calls prog 100 #[v0, .int .u8 (a1.toNat : Int)] w (AN fun u_ w_ => u_ = .bool r ∧ SL w [] w_ []) := by
 have s0 : SL w [] w [] := SL.Bf w
 refine BV func100 ntmps100 10 rfl rfl rfl fun _ F20 => ?_
 unfold Dw at H
 refine B2 7 F20 H (fun hb21 H F22 => ?_) (fun hb21 H F22 => ?_)
 ·cases H
  refine gw 15 F22 rfl fun _ F23 => ?_
  exact rt F23 ⟨rfl, s0⟩
 ·refine gw 3 F22 rfl fun _ F24 => ?_
  refine B2 10 F24 H (fun hb25 H F26 => ?_) (fun hb25 H F26 => ?_)
  ·refine gw 1 F26 rfl fun _ F27 => ?_
   refine Ax F27 rfl rfl ?_
   refine gx F27 (LW rfl rfl) 0 rfl rfl fun _ F29 => ?_
   refine Ax F29 rfl rfl ?_
   refine gx F29 (Jw rfl underlying64 underlying3) 1 rfl rfl fun _ F32 => ?_
   refine Ax F32 rfl rfl ?_
   cases H
   refine gx F32 (Ao rfl underlying22 (fR hr0 s0)) 7 rfl rfl fun _ F35 => ?_
   exact rt F35 ⟨rfl, s0⟩
  ·cases H
   refine gw 12 F26 rfl fun _ F36 => ?_
   exact rt F36 ⟨rfl, s0⟩
end Go.Proofs.YtpnacdckamiedaaGreat
namespace Go.Proofs.YtpnacdckamiedaaGreat
open Go Go.RowKit Go.Pv Go.Proofs.Tryz
theorem Kl {w : World} {v0 : Value} {a0 : List Ad} {a1 : UInt8} {r : Bool} (hr0 : Rd Ag w [] v0 a0) (H : DJ a0 a1 = some r) :
  Calls prog 131 #[v0, .int .u8 (a1.toNat : Int)] w (AN fun u_ w_ => u_ = .bool r ∧ SL w [] w_ []) := by
 have s0 : SL w [] w [] := SL.Bf w
 refine BV func131 ntmps131 9 rfl rfl rfl fun _ F24 => ?_
 unfold DJ at H
 obtain ⟨x22, hx23, H⟩ := bind_ok H
 refine DW F24 s0 (HO   (hr0.Az s0) hx23) 1 rfl rfl rfl rfl fun w26 _ F32 s30 => ?_
 refine B2 8 F32 H (fun hb33 H F34 => ?_) (fun hb33 H F34 => ?_)
 ·refine gw 4 F34 rfl fun _ F35 => ?_
  refine B2 12 F35 H (fun hb36 H F37 => ?_) (fun hb36 H F37 => ?_)
  ·cases H
   refine gw 7 F37 rfl fun _ F38 => ?_
   exact rt F38 ⟨rfl, s30⟩
  ·cases H
   refine gw 7 F37 rfl fun _ F39 => ?_
   exact rt F39 ⟨rfl, s30⟩
 ·cases H
  refine gw 11 F34 rfl fun _ F40 => ?_
  exact rt F40 ⟨rfl, s30⟩
end Go.Proofs.YtpnacdckamiedaaGreat
namespace Go.Proofs.YtpnacdckamiedaaGreat
open Go Go.RowKit Go.Pv Go.Proofs.Tryz
theorem KW {w : World} {v0 : Value} {a0 : List Ad} {a1 : Int} {r : (List Int)} (hr0 : Rd Ag w [] v0 a0) (H : Er a0 a1 = some r) :
  Calls prog 118 #[v0, .int .i64 a1] w (AN fun u_ w_ => ∃ u0 : Value, u_ = u0 ∧ SL w [] w_ [Sl (Ty.int .i64) u0 r]) := by
 have s0 : SL w [] w [] := SL.Bf w
 refine BV func118 ntmps118 11 rfl rfl rfl fun _ F4 => ?_
 unfold Er at H
 obtain ⟨o747, H748, R749⟩ := bind_ok H
 clear H
 refine BB (fun a w_ => ∃ v750 : Value, Fr a 31 [(5, v750)] ∧ SL w [] w_ [Sl (Ty.int .i64) v750 o747]) ?_ ?_
 ·have H := H748
  refine gc 1 F4 rfl fun _ F4 => ?_
  refine Dk (BS a0) (fun s752 a w_ => ∃ v937 : Value, Fr a 31 [(0, v0), (1, .int .i64 s752.1), (5, v937)] ∧ SL w [] w_ [Sl (Ty.int .i64) v937 s752.2]) H ?_ ?_
  ·exact ⟨(.slice none 0 0), F4.sb, (SL.BF (T := (Ty.int .i64)) s0)⟩
  ·intro s752 q1032 w1033 hI1034 o1031 H hr
   obtain ⟨v937, F1029, s1030⟩ := hI1034
   replace H : BS a0 s752 = some o1031 := H
   unfold BS at H
   refine gc 6 F1029 rfl fun _ F1055 => ?_
   refine B2 8 F1055 H (fun hb1056 H F1057 => ?_) (fun hb1056 H F1057 => ?_)
   ·refine gw 2 F1057 rfl fun _ F1058 => ?_
    refine Ax F1058 rfl rfl ?_
    refine gx F1058 (Ao rfl underlying22 (fR hr0 s1030)) 3 rfl rfl fun _ F1061 => ?_
    refine B2 14 F1061 H (fun hb1062 H F1063 => ?_) (fun hb1062 H F1063 => ?_)
    ·refine gw 1 F1063 rfl fun _ F1064 => ?_
     refine Ax F1064 rfl rfl ?_
     refine gx F1064 (Ao rfl underlying27 (fO s1030 m0)) 1 rfl rfl fun _ F1067 => ?_
     refine Ax F1067 rfl rfl ?_
     refine gx F1067 (Ao rfl underlying22 (fR hr0 s1030)) 4 rfl rfl fun _ F1070 => ?_
     refine AK F1070 H 7 4 rfl rfl rfl (fun hb1071 H _ F1089 => ?_) (fun hb1071 H _ F1072 => ?_)
     ·refine EU (parts := [(0, .tmp 22)]) (Flat.int .i64) ([s752.1] : List Int) F1089 s1030 EL rfl (by decide) rfl rfl rfl (by simp [Value.cells]) rfl rfl rfl fun v1090 w1091 q1092 F1093 s1094 => ?_
      obtain ⟨x1096, hx1097, H⟩ := bind_ok H
      obtain ⟨_, hr_⟩ := (s1094.f1.Bm m1)
      refine Ba (Flat.int .i64) F1093 s1094.f1 EL rfl rfl rfl rfl hr_ rfl rfl hx1097 rfl fun v1098 w1099 q1100 F1101 s1102 => ?_
      have s1102' := s1102.f1.drop
      obtain ⟨x1105, hx1106, H⟩ := bind_ok H
      obtain ⟨ad1107, cs1110, G1111, hi1108, hc1109, hr1112, hG1113⟩ := Rd.idx hr0 BK rfl hx1106
      refine gw 4 F1101 rfl fun _ F1104 => ?_
      obtain ⟨v1114, rfl, hr1115⟩ := (BC hr1112 hG1113)
      replace hc1109 := hc1109 _ _ s1102'
      refine gw 2 F1104 rfl fun _ F1116 => ?_
      refine gi F1116 hi1108 0 rfl fun _ F1117 => ?_
      refine gx F1117 (Di Ja rfl) 0 rfl rfl fun _ F1118 => ?_
      cases H
      refine gx F1118 (Ar Gg rfl (Cells.at_ hc1109 (o := 1) rfl)) 3 rfl rfl fun _ F1120 => ?_
      exact ⟨_, rfl, v1098, F1120.sb, s1102'⟩
     ·cases H
      obtain rfl := hr _ rfl
      exact ⟨v937, F1072.sb, s1030⟩
    ·cases H
     obtain rfl := hr _ rfl
     refine gw 13 F1063 rfl fun _ F1121 => ?_
     exact ⟨v937, F1121.sb, s1030⟩
   ·cases H
    obtain rfl := hr _ rfl
    refine gw 19 F1057 rfl fun _ F1122 => ?_
    exact ⟨v937, F1122.sb, s1030⟩
 ·intro q1125 w1126 hJ
  obtain ⟨v750, F1123, s1124⟩ := hJ
  have H := R749
  clear R749 H748
  cases H
  refine ge 8 F1123 rfl fun _ F1128 => ?_
  exact rt F1128 ⟨v750, rfl, s1124⟩
end Go.Proofs.YtpnacdckamiedaaGreat
namespace Go.Proofs.YtpnacdckamiedaaGreat
open Go Go.RowKit Go.Pv Go.Proofs.Tryz
theorem JO {w : World} {v0 : Value} {a0 : List Ad} {a1 : Int} {r : (List Av)} (hr0 : Rd Ag w [] v0 a0) (H : DK a0 a1 = some r) :
  Calls prog 81 #[v0, .int .i64 a1] w (AN fun u_ w_ => ∃ u0 : Value, u_ = u0 ∧ SL w [] w_ [Sl AW u0 r]) := by
 have s0 : SL w [] w [] := SL.Bf w
 refine BV func81 ntmps81 9 rfl rfl rfl fun _ F18 => ?_
 unfold DK at H
 obtain ⟨x16, hx17, H⟩ := bind_ok H
 refine AU F18 (KW    (hr0.Az s0) hx17) fun v19 w20 _ hS23 F22 => ?_
 obtain ⟨_, rfl, hq25⟩ := hS23
 have s24 := s0.add hq25
 refine gw 12 F22 rfl fun _ F958 => ?_
 obtain ⟨o1567, H1568, R1569⟩ := bind_ok H
 clear H
 refine gx F958 (Ao rfl underlying27 (fO s24 m0)) 4 rfl rfl fun _ F960 => ?_
 refine BB (fun a w_ => ∃ v1570 : Value, Fr a 29 [(6, v1570)] ∧ SL w [] w_ [Sl AW v1570 o1567]) ?_ ?_
 ·have H := H1568
  refine gc 1 F960 rfl fun _ F960 => ?_
  refine Dk (Dd a0 x16) (fun s1572 a w_ => ∃ v1723 : Value, Fr a 29 [(0, v0), (5, v19), (6, v1723), (7, .int .i64 s1572.2)] ∧ SL w [] w_ [Sl (Ty.int .i64) v19 x16, Sl AW v1723 s1572.1]) H ?_ ?_
  ·exact ⟨(.slice none 0 0), F960.sb, (SL.BF (T := AW) s24).f1⟩
  ·intro s1572 q1801 w1802 hI1803 o1800 H hr
   obtain ⟨v1723, F1798, s1799⟩ := hI1803
   replace H : Dd a0 x16 s1572 = some o1800 := H
   unfold Dd at H
   refine gc 7 F1798 rfl fun _ F1809 => ?_
   refine AK F1809 H 5 4 rfl rfl rfl (fun hb1810 H _ F1811 => ?_) (fun hb1810 H _ F1811 => ?_)
   ·obtain ⟨x1843, hx1844, H⟩ := bind_ok H
    obtain ⟨ad1845, hi1846, he1847⟩ := Gm (Flat.int .i64) s1799 m0 EL rfl hx1844
    obtain ⟨x1848, hx1849, H⟩ := bind_ok H
    obtain ⟨ad1850, cs1853, G1854, hi1851, hc1852, hr1855, hG1856⟩ := Rd.idx hr0 BK rfl hx1849
    obtain ⟨v1857, rfl, hr1858⟩ := (BC hr1855 hG1856)
    replace hc1852 := hc1852 _ _ s1799
    obtain ⟨x1859, hx1860, H⟩ := bind_ok H
    refine gw 4 F1811 rfl fun _ F1861 => ?_
    refine gi F1861 hi1846 0 rfl fun _ F1862 => ?_
    refine gx F1862 (Ar Gg rfl (Cells.at_ (SL.GT (Flat.int .i64) s1799 m0 he1847 hx1844) (o := 0) rfl)) 0 rfl rfl fun _ F1863 => ?_
    refine gi F1863 hi1851 0 rfl fun _ F1864 => ?_
    refine gx F1864 (Di HT rfl) 0 rfl rfl fun _ F1865 => ?_
    refine gx F1865 (Ar IB rfl (Cells.at_ hc1852 (o := 2) rfl)) 0 rfl rfl fun _ F1866 => ?_
    obtain ⟨_, hr_⟩ := (CU hr1858 s1799.f1)
    refine Ba Cv F1866 s1799.f1 Fe rfl rfl rfl rfl hr_ rfl rfl hx1860 rfl fun v1867 w1868 q1869 F1870 s1871 => ?_
    cases H
    refine gw 9 F1870 rfl fun _ F1874 => ?_
    exact ⟨_, rfl, v1867, F1874.sb, s1871.f1⟩
   ·cases H
    obtain rfl := hr _ rfl
    exact ⟨v1723, F1811.sb, s1799.drop⟩
 ·intro q1877 w1878 hJ
  obtain ⟨v1570, F1875, s1876⟩ := hJ
  have H := R1569
  clear R1569 H1568
  cases H
  refine ge 8 F1875 rfl fun _ F1880 => ?_
  exact rt F1880 ⟨v1570, rfl, s1876⟩
end Go.Proofs.YtpnacdckamiedaaGreat
namespace Go.Proofs.YtpnacdckamiedaaGreat
open Go Go.RowKit Go.Pv Go.Proofs.Tryz
theorem KG {w : World} {v0 : Value} {a0 : List Ad} {a1 : Int} {r : Int} (hr0 : Rd Ag w [] v0 a0) (H : Ed a0 a1 = some r) :
  Calls prog 99 #[v0, .int .i64 a1] w (AN fun u_ w_ => u_ = .int .i64 r ∧ SL w [] w_ []) := by
 have s0 : SL w [] w [] := SL.Bf w
 refine BV func99 ntmps99 7 rfl rfl rfl fun _ F2 => ?_
 unfold Ed at H
 obtain ⟨x28, hx29, H⟩ := bind_ok H
 obtain ⟨ad30, cs33, G34, hi31, hc32, hr35, hG36⟩ := Rd.idx hr0 BK rfl hx29
 obtain ⟨v37, rfl, hr38⟩ := (BC hr35 hG36)
 replace hc32 := hc32 _ _ s0
 refine gw 2 F2 rfl fun _ F39 => ?_
 refine gi F39 hi31 0 rfl fun _ F40 => ?_
 refine gx F40 (Be Gy rfl hc32 rfl) 0 rfl rfl fun _ F41 => ?_
 refine An F41 s0 GM rfl rfl fun g42 w43 q44 F45 s46 => ?_
 refine AH F45 s46 rfl rfl Iv (Af rfl (Af rfl (Af (Aj (fR hr38 s46)) AM))) (Nat.le_of_ble_eq_true rfl) fun w48 q49 F50 s51 => ?_
 refine gw 9 F50 rfl fun _ F60 => ?_
 refine AK F60 H 7 6 rfl rfl rfl (fun hb61 H _ F64 => ?_) (fun hb61 H _ F101 => ?_)
 ·cases H
  exact rt F64 ⟨rfl, s51.drop⟩
 ·obtain ⟨x99, hx100, H⟩ := bind_ok H
  refine AA F101 s51 m0 0 rfl fun _ F102 => ?_
  refine DW F102 s51 (Hz    hx100) 2 rfl rfl rfl rfl fun w104 _ F110 s108 => ?_
  refine B2 20 F110 H (fun hb111 H F112 => ?_) (fun hb111 H F112 => ?_)
  ·cases H
   refine gw 14 F112 rfl fun _ F115 => ?_
   exact rt F115 ⟨rfl, s108.drop⟩
  ·refine gw 1 F112 rfl fun _ F116 => ?_
   refine Ax F116 rfl rfl ?_
   refine AA F116 s108 m0 0 rfl fun _ F118 => ?_
   obtain ⟨x119, hx120, H⟩ := bind_ok H
   refine Ax F118 rfl rfl ?_
   refine DW F118 s108 (JS    hx120) 3 rfl rfl rfl rfl fun w122 _ F128 s126 => ?_
   refine AK F128 H 7 8 rfl rfl rfl (fun hb129 H _ F132 => ?_) (fun hb129 H _ F1108 => ?_)
   ·cases H
    exact rt F132 ⟨rfl, s126.drop⟩
   ·obtain ⟨o1751, H1752, R1753⟩ := bind_ok H
    clear H
    refine BB (fun a w_ => ∃ p1754 : Unit, o1751 = .inr (p1754) ∧ Fr a 92 [(0, v0), (1, .int .i64 a1), (5, .pointer (some ⟨g42, 0, none⟩))] ∧ SL w [] w_ [Ae g42 109 [.string ⟨⟨x28.Name⟩⟩, .int .i64 x28.Al, v37]]) ?_ ?_
    ·have H := H1752
     refine gc 1 F1108 rfl fun _ F1108 => ?_
     refine Dk (Cd a0 a1 x28) (fun s1755 a w_ => Fr a 92 [(0, v0), (1, .int .i64 a1), (5, .pointer (some ⟨g42, 0, none⟩)), (6, .int .i64 s1755)] ∧ SL w [] w_ [Ae g42 109 [.string ⟨⟨x28.Name⟩⟩, .int .i64 x28.Al, v37]]) H ?_ ?_
     ·exact ⟨F1108.sb, s126⟩
     ·intro s1755 q1996 w1997 hI1998 o1995 H hr
      obtain ⟨F1993, s1994⟩ := hI1998
      replace H : Cd a0 a1 x28 s1755 = some o1995 := H
      unfold Cd at H
      refine gc 8 F1993 rfl fun _ F2004 => ?_
      refine AK F2004 H 5 4 rfl rfl rfl (fun hb2005 H _ F2006 => ?_) (fun hb2005 H _ F2006 => ?_)
      ·obtain ⟨x2056, hx2057, H⟩ := bind_ok H
       obtain ⟨ad2058, cs2061, G2062, hi2059, hc2060, hr2063, hG2064⟩ := Rd.idx hr0 BK rfl hx2057
       obtain ⟨v2065, rfl, hr2066⟩ := (BC hr2063 hG2064)
       have hc2060_ := hc2060; clear hc2060; have hc2060 := fun w_ (hC : SL w [] w_ [Ae g42 109 [.string ⟨⟨x28.Name⟩⟩, .int .i64 x28.Al, v37]]) => hc2060_ _ _ hC
       refine N8 DR s1994 F2006 (QR.ev 2 rfl <| QR.ix hi2059 rfl <| QR.qo (fun _ hC => Di R9 rfl) rfl <| QR.qo (fun _ hC => Ar Kg rfl (Cells.at_ (hc2060 _ hC) (o := 0) rfl)) rfl <| QR.ev 1 rfl <| QR.ld m0 rfl <| QR.qo (fun _ hC => Ln rfl rfl) rfl <| QR.nil) fun w2070 q2068 s2067 F2069 => ?_
       refine ge 1 F2069 rfl fun _ F2069 => ?_
       refine AK F2069 H 12 8 rfl rfl rfl (fun hb2071 H _ F2074 => ?_) (fun hb2071 H _ F2075 => ?_)
       ·cases H
        obtain rfl := hr _ rfl
        replace H := R1753
        try dsimp only at H
        cases H
        exact rt F2074 ⟨rfl, s2067.drop⟩
       ·cases H
        exact ⟨_, rfl, F2075.sb, s2067⟩
      ·cases H
       obtain rfl := hr _ rfl
       exact ⟨_, rfl, F2006.sb, s1994⟩
    ·intro q2078 w2079 hJ
     obtain ⟨p1754, rfl, F2076, s2077⟩ := hJ
     have H := R1753
     clear R1753 H1752
     try dsimp only at H
     refine ge 5 F2076 rfl fun _ F2096 => ?_
     refine AA F2096 s2077 m0 2 rfl fun _ F2098 => ?_
     refine B2 41 F2098 H (fun hb2099 H F2100 => ?_) (fun hb2099 H F2100 => ?_)
     ·cases H
      refine gw 15 F2100 rfl fun _ F2103 => ?_
      exact rt F2103 ⟨rfl, s2077.drop⟩
     ·refine gw 1 F2100 rfl fun _ F2104 => ?_
      refine Ax F2104 rfl rfl ?_
      refine AA F2104 s2077 m0 5 rfl fun _ F2107 => ?_
      refine AK F2107 H 7 6 rfl rfl rfl (fun hb2108 H _ F2111 => ?_) (fun hb2108 H _ F2128 => ?_)
      ·cases H
       exact rt F2111 ⟨rfl, s2077.drop⟩
      ·obtain ⟨x2126, hx2127, H⟩ := bind_ok H
       refine AA F2128 s2077 m0 0 rfl fun _ F2129 => ?_
       refine AU F2129 (JO    (hr0.Az s2077) hx2127) fun v2130 w2131 _ hS2134 F2133 => ?_
       obtain ⟨_, rfl, hq2136⟩ := hS2134
       have s2135 := s2077.add hq2136
       obtain ⟨o9598, H9599, R9600⟩ := bind_ok H
       clear H
       refine gw 9 F2133 rfl fun _ F6619 => ?_
       refine BB (fun a w_ => ∃ p9601 : Unit, o9598 = .inr (p9601) ∧ Fr a 92 [(5, .pointer (some ⟨g42, 0, none⟩)), (7, v2130)] ∧ SL w [] w_ [Sl AW v2130 x2126, Ae g42 109 [.string ⟨⟨x28.Name⟩⟩, .int .i64 x28.Al, v37]]) ?_ ?_
       ·have H := H9599
        refine gc 1 F6619 rfl fun _ F6619 => ?_
        refine Dk (BL a0 x28 x2126) (fun s9602 a w_ => Fr a 92 [(0, v0), (5, .pointer (some ⟨g42, 0, none⟩)), (7, v2130), (8, .int .i64 s9602)] ∧ SL w [] w_ [Sl AW v2130 x2126, Ae g42 109 [.string ⟨⟨x28.Name⟩⟩, .int .i64 x28.Al, v37]]) H ?_ ?_
        ·exact ⟨F6619.sb, s2135⟩
        ·intro s9602 q10719 w10720 hI10721 o10718 H hr
         obtain ⟨F10716, s10717⟩ := hI10721
         replace H : BL a0 x28 x2126 s9602 = some o10718 := H
         unfold BL at H
         refine gc 5 F10716 rfl fun _ F10736 => ?_
         refine AA F10736 s10717 m1 0 rfl fun _ F10737 => ?_
         refine gx F10737 (Ao rfl underlying107 (fR hr38 s10717)) 3 rfl rfl fun _ F10739 => ?_
         refine AK F10739 H 7 4 rfl rfl rfl (fun hb10740 H _ F10942 => ?_) (fun hb10740 H _ F10741 => ?_)
         ·obtain ⟨x10937, hx10938, H⟩ := bind_ok H
          obtain ⟨ad10939, hi10940, hc10941⟩ := GG Cv (CU hr38 s10717) Fe rfl hx10938
          refine AA F10942 s10717 m1 1 rfl fun _ F10944 => ?_
          refine gi F10944 hi10940 0 rfl fun _ F10945 => ?_
          refine gx F10945 (Be L1 rfl hc10941 rfl) 0 rfl rfl fun _ F10946 => ?_
          refine An F10946 s10717 K6 rfl rfl fun g10947 w10948 q10949 F10950 s10951 => ?_
          refine AH F10950 s10951 rfl rfl M1 (Af rfl (Af rfl AM)) (Nat.le_of_ble_eq_true rfl) fun w10953 q10954 F10955 s10956 => ?_
          obtain ⟨x10998, hx10999, H⟩ := bind_ok H
          refine gw 6 F10955 rfl fun _ F11000 => ?_
          refine AA F11000 s10956 m0 0 rfl fun _ F11001 => ?_
          refine DW F11001 s10956 (Hz    hx10999) 3 rfl rfl rfl rfl fun w11003 _ F11009 s11007 => ?_
          refine AK F11009 H 13 4 rfl rfl rfl (fun hb11010 H _ F11013 => ?_) (fun hb11010 H _ F11011 => ?_)
          ·cases H
           obtain rfl := hr _ rfl
           replace H := R9600
           try dsimp only at H
           cases H
           exact rt F11013 ⟨rfl, s11007.drop.drop.drop⟩
          ·obtain ⟨x11038, hx11039, H⟩ := bind_ok H
           refine bool_split x11038 (fun hb11040 => ?_) (fun hb11040 => ?_)
           ·replace H := OE hb11040 H
            refine N8 DR s11007 F11011 (QR.ev 2 rfl <| QR.ld m0 rfl <| QR.call (args := [.tmp 67, .tmp 69]) M7 rfl (fun _ hC => Ob (Gz (a0 := x2126) (a1 := x10937.Name) (hC.rd0 m1) hx11039) hC) <| QR.ev 1 rfl <| QR.qs rfl rfl (EY rfl hb11040) Bool.noConfusion rfl rfl <| QR.qs rfl rfl (EY rfl hb11040) Bool.noConfusion rfl rfl <| QR.qs rfl rfl (EY rfl hb11040) Bool.noConfusion rfl rfl <| QR.qs rfl rfl (EY rfl hb11040) Bool.noConfusion rfl rfl <| QR.qs rfl rfl (EY rfl hb11040) Bool.noConfusion rfl rfl <| QR.qs rfl rfl (EY rfl hb11040) Bool.noConfusion rfl rfl <| QR.qs rfl rfl (EY rfl hb11040) Bool.noConfusion rfl rfl <| QR.qo (fun _ hC => O0 (WC rfl hb11040) rfl) rfl <| QR.nil) fun w11044 q11042 s11041 F11043 => ?_
            cases H
            obtain rfl := hr _ rfl
            replace H := R9600
            try dsimp only at H
            cases H
            refine ge 15 F11043 rfl fun _ F11046 => ?_
            exact rt F11046 ⟨rfl, s11041.drop.drop.drop⟩
           ·replace H := OG hb11040 H
            obtain ⟨x11047, hx11048, H⟩ := bind_ok H
            obtain ⟨v11049, hsc11050, hv11051⟩ := Rd.cut hr38 Fe rfl hx11048 none (some s9602) (.inr ⟨rfl, rfl⟩) (.inl rfl)
            obtain ⟨x11052, hx11053, H⟩ := bind_ok H
            refine N8 DR s11007 F11011 (QR.ev 2 rfl <| QR.ld m0 rfl <| QR.call (args := [.tmp 67, .tmp 69]) M7 rfl (fun _ hC => Ob (Gz (a0 := x2126) (a1 := x10937.Name) (hC.rd0 m1) hx11039) hC) <| QR.ev 1 rfl <| QR.qg (fun _ hC => PV HT rfl rfl) rfl rfl (EY rfl hb11040) rfl rfl <| QR.qg (fun _ hC => Ar IB rfl (hC.Aq m2 rfl)) rfl rfl (EY rfl hb11040) rfl rfl <| QR.qg (fun _ hC => QK rfl) rfl rfl (EY rfl hb11040) rfl rfl <| QR.qg (fun _ hC => hsc11050 _ _ _ _ _ .i64 .i64 _ _ _ _ _ rfl trivial rfl) rfl rfl (EY rfl hb11040) rfl rfl <| QR.qg (fun _ hC => PV N1 rfl rfl) rfl rfl (EY rfl hb11040) rfl rfl <| QR.qg (fun _ hC => Ar Kg rfl (hC.Aq m0 rfl)) rfl rfl (EY rfl hb11040) rfl rfl <| QR.X8 rfl (EY rfl hb11040) (args := [.tmp 75, .tmp 77]) M7 rfl (fun _ hC => Ob (Gz (a0 := x11047) (a1 := x10937.Name) (hv11051.Az hC) hx11053) hC) <| QR.qo (fun _ hC => Ov (WC rfl hb11040) rfl) rfl <| QR.nil) fun w11057 q11055 s11054 F11056 => ?_
            refine ge 1 F11056 rfl fun _ F11056 => ?_
            refine AK F11056 H 13 6 rfl rfl rfl (fun hb11058 H _ F11061 => ?_) (fun hb11058 H _ F11076 => ?_)
            ·cases H
             obtain rfl := hr _ rfl
             replace H := R9600
             try dsimp only at H
             cases H
             exact rt F11061 ⟨rfl, s11054.drop.drop.drop⟩
            ·obtain ⟨x11074, hx11075, H⟩ := bind_ok H
             refine AA F11076 s11054 m0 0 rfl fun _ F11077 => ?_
             refine DW F11077 s11054 (Kl   (hr0.Az s11054) hx11075) 3 rfl rfl rfl rfl fun w11079 _ F11085 s11083 => ?_
             refine AK F11085 H 12 8 rfl rfl rfl (fun hb11086 H _ F11089 => ?_) (fun hb11086 H _ F11090 => ?_)
             ·cases H
              obtain rfl := hr _ rfl
              replace H := R9600
              try dsimp only at H
              cases H
              exact rt F11089 ⟨rfl, s11083.drop.drop.drop⟩
             ·cases H
              exact ⟨_, rfl, F11090.sb, s11083.drop⟩
         ·cases H
          obtain rfl := hr _ rfl
          exact ⟨_, rfl, F10741.sb, s10717⟩
       ·intro q11093 w11094 hJ
        obtain ⟨p9601, rfl, F11091, s11092⟩ := hJ
        have H := R9600
        clear R9600 H9599
        try dsimp only at H
        refine ge 5 F11091 rfl fun _ F11117 => ?_
        refine AA F11117 s11092 m1 0 rfl fun _ F11118 => ?_
        refine gx F11118 (Ao rfl underlying107 (fR hr38 s11092)) 1 rfl rfl fun _ F11120 => ?_
        refine gx F11120 (Ao rfl underlying107 (fO s11092 m0)) 4 rfl rfl fun _ F11122 => ?_
        refine AK F11122 H 7 8 rfl rfl rfl (fun hb11123 H _ F11126 => ?_) (fun hb11123 H _ F11128 => ?_)
        ·cases H
         exact rt F11126 ⟨rfl, s11092.drop.drop⟩
        ·cases H
         exact rt F11128 ⟨rfl, s11092.drop.drop⟩
end Go.Proofs.YtpnacdckamiedaaGreat
namespace Go.Proofs.YtpnacdckamiedaaGreat
open Go Go.RowKit Go.Pv Go.Proofs.Tryz
theorem K7 {w : World} {v0 : Value} {a0 : List Ad} {r : Int × Int} (hr0 : Rd Ag w [] v0 a0) (H : Ec a0 = some r) :
  Calls prog 64 #[v0] w (AN fun u_ w_ => u_ = .tuple ⟨[.int .i64 r.1, .int .i64 r.2]⟩ ∧ SL w [] w_ []) := by
 have s0 : SL w [] w [] := SL.Bf w
 refine BV func64 ntmps64 12 rfl rfl rfl fun _ F930 => ?_
 unfold Ec at H
 obtain ⟨o1541, H1542, R1543⟩ := bind_ok H
 clear H
 refine BB (fun a w_ => ∃ p1544 : Unit, o1541 = .inr (p1544) ∧ Fr a 19 [] ∧ SL w [] w_ []) ?_ ?_
 ·have H := H1542
  refine gc 1 F930 rfl fun _ F930 => ?_
  refine Dk (Cc a0) (fun s1545 a w_ => Fr a 19 [(0, v0), (4, .int .i64 s1545)] ∧ SL w [] w_ []) H ?_ ?_
  ·exact ⟨F930.sb, s0⟩
  ·intro s1545 q1774 w1775 hI1776 o1773 H hr
   obtain ⟨F1771, s1772⟩ := hI1776
   replace H : Cc a0 s1545 = some o1773 := H
   unfold Cc at H
   refine gc 5 F1771 rfl fun _ F1788 => ?_
   refine gx F1788 (Ao rfl underlying22 (fR hr0 s1772)) 3 rfl rfl fun _ F1790 => ?_
   refine AK F1790 H 8 4 rfl rfl rfl (fun hb1791 H _ F1834 => ?_) (fun hb1791 H _ F1792 => ?_)
   ·obtain ⟨x1832, hx1833, H⟩ := bind_ok H
    refine DW F1834 s1772 (KG   (hr0.Az s1772) hx1833) 9 rfl rfl rfl rfl fun w1836 _ F1844 s1840 => ?_
    refine AK F1844 H 15 8 rfl rfl rfl (fun hb1845 H _ F1848 => ?_) (fun hb1845 H _ F1849 => ?_)
    ·cases H
     obtain rfl := hr _ rfl
     replace H := R1543
     try dsimp only at H
     cases H
     exact rt F1848 ⟨rfl, s1840⟩
    ·cases H
     exact ⟨_, rfl, F1849.sb, s1840⟩
   ·cases H
    obtain rfl := hr _ rfl
    exact ⟨_, rfl, F1792.sb, s1772⟩
 ·intro q1852 w1853 hJ
  obtain ⟨p1544, rfl, F1850, s1851⟩ := hJ
  have H := R1543
  clear R1543 H1542
  try dsimp only at H
  cases H
  refine ge 8 F1850 rfl fun _ F1855 => ?_
  exact rt F1855 ⟨rfl, s1851⟩
end Go.Proofs.YtpnacdckamiedaaGreat
namespace Go.Proofs.YtpnacdckamiedaaGreat
open Go Go.RowKit Go.Pv Go.Proofs.Tryz
theorem HB {w : World} {v0 : Value} {a0 : List Ad} {a1 : UInt8} {r : Bool} (hr0 : Rd Ag w [] v0 a0) (H : CY a0 a1 = some r) :
  Calls prog 65 #[v0, .int .u8 (a1.toNat : Int)] w (AN fun u_ w_ => u_ = .bool r ∧ SL w [] w_ []) := by
 have s0 : SL w [] w [] := SL.Bf w
 refine BV func65 ntmps65 9 rfl rfl rfl fun _ F24 => ?_
 unfold CY at H
 obtain ⟨x22, hx23, H⟩ := bind_ok H
 refine DW F24 s0 (HO   (hr0.Az s0) hx23) 1 rfl rfl rfl rfl fun w26 _ F32 s30 => ?_
 refine B2 8 F32 H (fun hb33 H F34 => ?_) (fun hb33 H F34 => ?_)
 ·refine gw 4 F34 rfl fun _ F35 => ?_
  refine B2 12 F35 H (fun hb36 H F37 => ?_) (fun hb36 H F37 => ?_)
  ·cases H
   refine gw 7 F37 rfl fun _ F38 => ?_
   exact rt F38 ⟨rfl, s30⟩
  ·cases H
   refine gw 7 F37 rfl fun _ F39 => ?_
   exact rt F39 ⟨rfl, s30⟩
 ·cases H
  refine gw 11 F34 rfl fun _ F40 => ?_
  exact rt F40 ⟨rfl, s30⟩
end Go.Proofs.YtpnacdckamiedaaGreat
namespace Go.Proofs.YtpnacdckamiedaaGreat
open Go Go.RowKit Go.Pv Go.Proofs.Tryz
theorem Lu {w : World} {v0_0 v0_1 : Value} {a0 : AD} {r : Bool} (hr0_0 : Rd Ag w [] v0_0 a0.Classes) (hr0_1 : Rd Bv w [] v0_1 a0.AO) (H : DN a0 = some r) :
  Calls prog 45 #[.agg ⟨[v0_0, v0_1, .int .i64 a0.Fn]⟩] w (AN fun u_ w_ => u_ = .bool r ∧ SL w [] w_ []) := by
 have s0 : SL w [] w [] := SL.Bf w
 refine BV func45 ntmps45 2 rfl rfl rfl fun _ F0 => ?_
 unfold DN at H
 refine Bz F0 s0 rfl rfl rfl fun g8 w9 q10 F11 s12 => ?_
 obtain ⟨x57, hx58, H⟩ := bind_ok H
 refine gw 7 F11 rfl fun _ F59 => ?_
 refine AA F59 s12 m0 0 rfl fun _ F60 => ?_
 refine DW F60 s12 (K7   (hr0_0.Az s12) hx58) 13 rfl rfl rfl rfl fun w62 _ F70 s66 => ?_
 refine AK F70 H 7 6 rfl rfl rfl (fun hb71 H _ F74 => ?_) (fun hb71 H _ F106 => ?_)
 ·cases H
  exact rt F74 ⟨rfl, s66.drop⟩
 ·refine AA F106 s66 m0 0 rfl fun _ F107 => ?_
  refine gx F107 (Ao rfl underlying78 (fR hr0_1 s66)) 2 rfl rfl fun _ F109 => ?_
  refine B2 21 F109 H (fun hb110 H F111 => ?_) (fun hb110 H F111 => ?_)
  ·cases H
   refine gw 22 F111 rfl fun _ F114 => ?_
   exact rt F114 ⟨rfl, s66.drop⟩
  ·refine gw 1 F111 rfl fun _ F115 => ?_
   refine Ax F115 rfl rfl ?_
   refine AA F115 s66 m0 3 rfl fun _ F118 => ?_
   refine B2 26 F118 H (fun hb119 H F120 => ?_) (fun hb119 H F120 => ?_)
   ·cases H
    refine gw 17 F120 rfl fun _ F123 => ?_
    exact rt F123 ⟨rfl, s66.drop⟩
   ·refine gw 1 F120 rfl fun _ F124 => ?_
    refine Ax F124 rfl rfl ?_
    refine AA F124 s66 m0 1 rfl fun _ F127 => ?_
    refine Ax F127 rfl rfl ?_
    refine AA F127 s66 m0 0 rfl fun _ F129 => ?_
    refine Ax F129 rfl rfl ?_
    refine gx F129 (Ao rfl underlying78 (fR hr0_1 s66)) 4 rfl rfl fun _ F132 => ?_
    refine AK F132 H 7 6 rfl rfl rfl (fun hb133 H _ F136 => ?_) (fun hb133 H _ F34961 => ?_)
    ·cases H
     exact rt F136 ⟨rfl, s66.drop⟩
    ·refine AA F34961 s66 m0 0 rfl fun _ F34962 => ?_
     obtain ⟨o58167, H58168, R58169⟩ := bind_ok H
     clear H
     refine gx F34962 (Ao rfl underlying78 (fR hr0_1 s66)) 3 rfl rfl fun _ F34964 => ?_
     refine BB (fun a w_ => ∃ p58170 : Unit, o58167 = .inr (p58170) ∧ Fr a 72 [] ∧ SL w [] w_ []) ?_ ?_
     ·have H := H58168
      refine gc 1 F34964 rfl fun _ F34964 => ?_
      refine Dk (BI a0) (fun s58171 a w_ => Fr a 72 [(1, .pointer (some ⟨g8, 0, none⟩)), (35, v0_1), (36, .int .i64 (a0.AO.length : Int)), (37, .int .i64 s58171)] ∧ SL w [] w_ [Ae g8 80 [v0_0, v0_1, .int .i64 a0.Fn]]) H ?_ ?_
      ·exact ⟨F34964.sb, s66⟩
      ·intro s58171 q66872 w66873 hI66874 o66871 H hr
       obtain ⟨F66869, s66870⟩ := hI66874
       replace H : BI a0 s58171 = some o66871 := H
       unfold BI at H
       refine gc 6 F66869 rfl fun _ F66876 => ?_
       refine AK F66876 H 6 4 rfl rfl rfl (fun hb66879 H _ F66880 => ?_) (fun hb66879 H _ F66880 => ?_)
       ·obtain ⟨x68350, hx68351, H⟩ := bind_ok H
        obtain ⟨ad68352, cs68355, G68356, hi68353, hc68354, hr68357, hG68358⟩ := Rd.idx hr0_1 Hy rfl hx68351
        obtain ⟨v68359, rfl, hr68360⟩ := (L6 hr68357 hG68358)
        replace hc68354 := hc68354 _ _ s66870
        refine gi F66880 hi68353 0 rfl fun _ F68361 => ?_
        refine gx F68361 (Be Iq rfl hc68354 rfl) 0 rfl rfl fun _ F68362 => ?_
        refine An F68362 s66870 IF rfl rfl fun g68363 w68364 q68365 F68366 s68367 => ?_
        refine AH F68366 s68367 rfl rfl LK (Af (Aj (fR hr68360 s68367)) (Af rfl AM)) (Nat.le_of_ble_eq_true rfl) fun w68369 q68370 F68371 s68372 => ?_
        obtain ⟨o68482, H68483, R68484⟩ := bind_ok H
        clear H
        refine gw 3 F68371 rfl fun _ F68371 => ?_
        refine BB (fun a w_ => ∃ p68485 : Bool × Bool, o68482 = .inr (p68485) ∧ Fr a 72 [(1, .pointer (some ⟨g8, 0, none⟩)), (6, .pointer (some ⟨g68363, 0, none⟩)), (35, v0_1), (36, .int .i64 (a0.AO.length : Int)), (37, .int .i64 s58171), (46, .pointer (some ⟨g68363, 1, none⟩)), (47, .int .u8 (x68350.Result.toNat : Int)), (48, .bool ((x68350.Result.toNat : Int) != 0)), (49, .bool p68485.1), (56, .bool p68485.2)] ∧ SL w [] w_ [Ae g68363 66 [v68359, .int .u8 (x68350.Result.toNat : Int)], Ae g8 80 [v0_0, v0_1, .int .i64 a0.Fn]]) ?_ ?_
        ·have H := H68483
         refine gc 3 F68371 rfl fun _ F68486 => ?_
         refine AA F68486 s68372 m0 0 rfl fun _ F68487 => ?_
         refine gx F68487 (Ao rfl underlying63 (fR hr68360 s68372)) 2 rfl rfl fun _ F68489 => ?_
         refine B2 45 F68489 H (fun hb68490 H F68491 => ?_) (fun hb68490 H F68491 => ?_)
         ·cases H
          replace H := R68484
          try dsimp only at H
          cases H
          obtain rfl := hr _ rfl
          replace H := R58169
          try dsimp only at H
          cases H
          refine gw 29 F68491 rfl fun _ F68494 => ?_
          exact rt F68494 ⟨rfl, s68372.drop.drop⟩
         ·refine gw 1 F68491 rfl fun _ F68495 => ?_
          refine Ax F68495 rfl rfl ?_
          refine AA F68495 s68372 m0 2 rfl fun _ F68498 => ?_
          refine B2 49 F68498 H (fun hb68499 H F68500 => ?_) (fun hb68499 H F68500 => ?_)
          ·refine gw 1 F68500 rfl fun _ F68501 => ?_
           refine Ax F68501 rfl rfl ?_
           refine AA F68501 s68372 m1 1 rfl fun _ F68504 => ?_
           refine Ax F68504 rfl rfl ?_
           refine AA F68504 s68372 m0 0 rfl fun _ F68506 => ?_
           obtain ⟨x68507, hx68508, H⟩ := bind_ok H
           refine Ax F68506 rfl rfl ?_
           refine DW F68506 s68372 (HB   (hr0_0.Az s68372) hx68508) 5 rfl rfl rfl rfl fun w68510 _ F68516 s68514 => ?_
           refine AK F68516 H 14 1 rfl rfl rfl (fun hb68517 H _ F68520 => ?_) (fun hb68517 H _ F68518 => ?_)
           ·cases H
            replace H := R68484
            try dsimp only at H
            cases H
            obtain rfl := hr _ rfl
            replace H := R58169
            try dsimp only at H
            cases H
            exact rt F68520 ⟨rfl, s68514.drop.drop⟩
           ·cases H
            exact ⟨_, rfl, F68518.sb, s68514⟩
          ·cases H
           refine gw 12 F68500 rfl fun _ F68521 => ?_
           exact ⟨_, rfl, F68521.sb, s68372⟩
        ·intro q68524 w68525 hJ
         obtain ⟨p68485, rfl, F68522, s68523⟩ := hJ
         have H := R68484
         clear R68484 H68483
         try dsimp only at H
         refine ge 4 F68522 rfl fun _ F68530 => ?_
         refine AA F68530 s68523 m0 0 rfl fun _ F68531 => ?_
         obtain ⟨o69352, H69353, R69354⟩ := bind_ok H
         clear H
         refine gx F68531 (Ao rfl underlying63 (fR hr68360 s68523)) 3 rfl rfl fun _ F68533 => ?_
         refine BB (fun a w_ => ∃ p69355 : Unit, o69352 = .inr (p69355) ∧ Fr a 72 [(1, .pointer (some ⟨g8, 0, none⟩)), (35, v0_1), (36, .int .i64 (a0.AO.length : Int)), (37, .int .i64 s58171), (46, .pointer (some ⟨g68363, 1, none⟩)), (47, .int .u8 (x68350.Result.toNat : Int)), (48, .bool ((x68350.Result.toNat : Int) != 0)), (49, .bool p68485.1), (56, .bool p68485.2)] ∧ SL w [] w_ [Ae g68363 66 [v68359, .int .u8 (x68350.Result.toNat : Int)], Ae g8 80 [v0_0, v0_1, .int .i64 a0.Fn]]) ?_ ?_
         ·have H := H69353
          refine gc 1 F68533 rfl fun _ F68533 => ?_
          refine Dk (BG a0 x68350) (fun s69356 a w_ => Fr a 72 [(1, .pointer (some ⟨g8, 0, none⟩)), (35, v0_1), (36, .int .i64 (a0.AO.length : Int)), (37, .int .i64 s58171), (46, .pointer (some ⟨g68363, 1, none⟩)), (47, .int .u8 (x68350.Result.toNat : Int)), (48, .bool ((x68350.Result.toNat : Int) != 0)), (49, .bool p68485.1), (56, .bool p68485.2), (59, v68359), (60, .int .i64 (x68350.Ai.length : Int)), (61, .int .i64 s69356)] ∧ SL w [] w_ [Ae g68363 66 [v68359, .int .u8 (x68350.Result.toNat : Int)], Ae g8 80 [v0_0, v0_1, .int .i64 a0.Fn]]) H ?_ ?_
          ·exact ⟨F68533.sb, s68523⟩
          ·intro s69356 q69663 w69664 hI69665 o69662 H hr
           obtain ⟨F69660, s69661⟩ := hI69665
           replace H : BG a0 x68350 s69356 = some o69662 := H
           unfold BG at H
           refine gc 6 F69660 rfl fun _ F69667 => ?_
           refine AK F69667 H 6 4 rfl rfl rfl (fun hb69670 H _ F69671 => ?_) (fun hb69670 H _ F69671 => ?_)
           ·obtain ⟨x69726, hx69727, H⟩ := bind_ok H
            obtain ⟨ad69728, hi69729, hc69730⟩ := GG Flat.u8 (CU hr68360 s69661) HG rfl hx69727
            refine gi F69671 hi69729 0 rfl fun _ F69731 => ?_
            obtain ⟨x69747, hx69748, H⟩ := bind_ok H
            refine gx F69731 (Ar Jq rfl (Cells.at_ hc69730 (o := 0) rfl)) 6 rfl rfl fun _ F69749 => ?_
            refine AA F69749 s69661 m1 1 rfl fun _ F69751 => ?_
            refine DW F69751 s69661 (HB   (hr0_0.Az s69661) hx69748) 3 rfl rfl rfl rfl fun w69753 _ F69759 s69757 => ?_
            refine AK F69759 H 17 7 rfl rfl rfl (fun hb69760 H _ F69763 => ?_) (fun hb69760 H _ F69764 => ?_)
            ·cases H
             obtain rfl := hr _ rfl
             replace H := R69354
             try dsimp only at H
             cases H
             obtain rfl := hr _ rfl
             replace H := R58169
             try dsimp only at H
             cases H
             exact rt F69763 ⟨rfl, s69757.drop.drop⟩
            ·cases H
             exact ⟨_, rfl, F69764.sb, s69757⟩
           ·cases H
            obtain rfl := hr _ rfl
            exact ⟨_, rfl, F69671.sb, s69661⟩
         ·intro q69767 w69768 hJ
          obtain ⟨p69355, rfl, F69765, s69766⟩ := hJ
          have H := R69354
          clear R69354 H69353
          try dsimp only at H
          cases H
          refine ge 6 F69765 rfl fun _ F69769 => ?_
          exact ⟨_, rfl, F69769.sb, s69766.drop⟩
       ·cases H
        obtain rfl := hr _ rfl
        exact ⟨_, rfl, F66880.sb, s66870.drop⟩
     ·intro q69774 w69775 hJ
      obtain ⟨p58170, rfl, F69772, s69773⟩ := hJ
      have H := R58169
      clear R58169 H58168
      try dsimp only at H
      cases H
      refine ge 7 F69772 rfl fun _ F69777 => ?_
      exact rt F69777 ⟨rfl, s69773⟩
end Go.Proofs.YtpnacdckamiedaaGreat
namespace Go.Proofs.YtpnacdckamiedaaGreat
open Go Go.RowKit Go.Pv Go.Proofs.Tryz
theorem Kc {w : World} {v0_0 v1 : Value} {a0 : Am} {a1 : List Int} {r : Bool} (hr0_0 : Rd Ty.u8 w [] v0_0 a0.Ai) (hr1 : Rd (Ty.int .i64) w [] v1 a1) (H : Da a0 a1 = some r) :
  Calls prog 46 #[.agg ⟨[v0_0, .int .u8 (a0.Result.toNat : Int)]⟩, v1] w (AN fun u_ w_ => u_ = .bool r ∧ SL w [] w_ []) := by
 have s0 : SL w [] w [] := SL.Bf w
 refine BV func46 ntmps46 2 rfl rfl rfl fun _ F0 => ?_
 unfold Da at H
 refine Bz F0 s0 rfl rfl rfl fun g8 w9 q10 F11 s12 => ?_
 refine gw 7 F11 rfl fun _ F37 => ?_
 refine gx F37 (Ao rfl underlying27 (fR hr1 s12)) 1 rfl rfl fun _ F39 => ?_
 refine AA F39 s12 m0 0 rfl fun _ F40 => ?_
 refine gx F40 (Ao rfl underlying63 (fR hr0_0 s12)) 3 rfl rfl fun _ F42 => ?_
 refine AK F42 H 7 6 rfl rfl rfl (fun hb43 H _ F46 => ?_) (fun hb43 H _ F1847 => ?_)
 ·cases H
  exact rt F46 ⟨rfl, s12.drop⟩
 ·refine AA F1847 s12 m0 0 rfl fun _ F1848 => ?_
  obtain ⟨o3037, H3038, R3039⟩ := bind_ok H
  clear H
  refine gx F1848 (Ao rfl underlying63 (fR hr0_0 s12)) 3 rfl rfl fun _ F1850 => ?_
  refine BB (fun a w_ => ∃ p3040 : Unit, o3037 = .inr (p3040) ∧ Fr a 44 [] ∧ SL w [] w_ []) ?_ ?_
  ·have H := H3038
   refine gc 1 F1850 rfl fun _ F1850 => ?_
   refine Dk (B0 a0 a1) (fun s3041 a w_ => Fr a 44 [(1, v1), (15, v0_0), (16, .int .i64 (a0.Ai.length : Int)), (17, .int .i64 s3041)] ∧ SL w [] w_ []) H ?_ ?_
   ·exact ⟨F1850.sb, s12.drop⟩
   ·intro s3041 q3486 w3487 hI3488 o3485 H hr
    obtain ⟨F3483, s3484⟩ := hI3488
    replace H : B0 a0 a1 s3041 = some o3485 := H
    unfold B0 at H
    refine gc 6 F3483 rfl fun _ F3490 => ?_
    refine AK F3490 H 7 4 rfl rfl rfl (fun hb3493 H _ F3577 => ?_) (fun hb3493 H _ F3494 => ?_)
    ·obtain ⟨x3572, hx3573, H⟩ := bind_ok H
     obtain ⟨ad3574, hi3575, hc3576⟩ := GG Flat.u8 (CU hr0_0 s3484) HG rfl hx3573
     refine gi F3577 hi3575 0 rfl fun _ F3578 => ?_
     obtain ⟨x3590, hx3591, H⟩ := bind_ok H
     obtain ⟨ad3592, hi3593, hc3594⟩ := GG (Flat.int .i64) (CU hr1 s3484) EL rfl hx3591
     refine gx F3578 (Ar Jq rfl (Cells.at_ hc3576 (o := 0) rfl)) 8 rfl rfl fun _ F3595 => ?_
     refine gi F3595 hi3593 0 rfl fun _ F3596 => ?_
     refine gx F3596 (Ar Gg rfl (Cells.at_ hc3594 (o := 0) rfl)) 15 rfl rfl fun _ F3602 => ?_
     refine AK F3602 H 5 6 rfl rfl rfl (fun hb3603 H _ F3605 => ?_) (fun hb3603 H _ F3618 => ?_)
     ·refine B2 31 F3605 H (fun hb3606 H F3607 => ?_) (fun hb3606 H F3607 => ?_)
      ·cases H
       obtain rfl := hr _ rfl
       replace H := R3039
       try dsimp only at H
       cases H
       refine gw 19 F3607 rfl fun _ F3610 => ?_
       exact rt F3610 ⟨rfl, s3484⟩
      ·refine gw 5 F3607 rfl fun _ F3611 => ?_
       refine AK F3611 H 13 8 rfl rfl rfl (fun hb3612 H _ F3615 => ?_) (fun hb3612 H _ F3616 => ?_)
       ·cases H
        obtain rfl := hr _ rfl
        replace H := R3039
        try dsimp only at H
        cases H
        exact rt F3615 ⟨rfl, s3484⟩
       ·cases H
        exact ⟨_, rfl, F3616.sb, s3484⟩
     ·refine AK F3618 H 5 13 rfl rfl rfl (fun hb3619 H _ F3621 => ?_) (fun hb3619 H _ F3633 => ?_)
      ·refine B2 39 F3621 H (fun hb3622 H F3623 => ?_) (fun hb3622 H F3623 => ?_)
       ·refine gw 5 F3623 rfl fun _ F3624 => ?_
        refine AK F3624 H 13 8 rfl rfl rfl (fun hb3625 H _ F3628 => ?_) (fun hb3625 H _ F3629 => ?_)
        ·cases H
         obtain rfl := hr _ rfl
         replace H := R3039
         try dsimp only at H
         cases H
         exact rt F3628 ⟨rfl, s3484⟩
        ·cases H
         exact ⟨_, rfl, F3629.sb, s3484⟩
       ·cases H
        refine gw 14 F3623 rfl fun _ F3631 => ?_
        exact ⟨_, rfl, F3631.sb, s3484⟩
      ·cases H
       obtain rfl := hr _ rfl
       replace H := R3039
       try dsimp only at H
       cases H
       exact rt F3633 ⟨rfl, s3484⟩
    ·cases H
     obtain rfl := hr _ rfl
     exact ⟨_, rfl, F3494.sb, s3484⟩
  ·intro q3636 w3637 hJ
   obtain ⟨p3040, rfl, F3634, s3635⟩ := hJ
   have H := R3039
   clear R3039 H3038
   try dsimp only at H
   cases H
   refine ge 7 F3634 rfl fun _ F3639 => ?_
   exact rt F3639 ⟨rfl, s3635⟩
end Go.Proofs.YtpnacdckamiedaaGreat
namespace Go.Proofs.YtpnacdckamiedaaGreat
open Go Go.RowKit Go.Pv Go.Proofs.Tryz
theorem K2 {w : World} {v0_1 v0_2 v0_3 v2 : Value} {a0 : Ah} {a1 : Int} {a2 : List Int} {a3 : Int} {r : Int} (hr0_1 : Rd Ag w [] v0_1 a0.Classes) (hr0_2 : Rd As w [] v0_2 a0.Funcs) (hr0_3 : Rd (Ty.slice Ty.u8) w [] v0_3 a0.Cf) (hr2 : Rd (Ty.int .i64) w [] v2 a2) (H : Du a0 a1 a2 a3 = some r) :
  Calls prog 26 #[.agg ⟨[.string ⟨⟨a0.Name⟩⟩, v0_1, v0_2, v0_3]⟩, .int .i64 a1, v2, .int .i64 a3] w (AN fun u_ w_ => u_ = .int .i64 r ∧ SL w [] w_ []) := by
 have s0 : SL w [] w [] := SL.Bf w
 refine BV func26 ntmps26 2 rfl rfl rfl fun _ F0 => ?_
 unfold Du at H
 refine Bz F0 s0 rfl rfl rfl fun g8 w9 q10 F11 s12 => ?_
 obtain ⟨x41, hx42, H⟩ := bind_ok H
 refine gw 5 F11 rfl fun _ F14 => ?_
 refine AA F14 s12 m0 0 rfl fun _ F43 => ?_
 refine AU F43 (IC (a0 := (⟨a0.Name, a0.Classes, a0.Funcs, a0.Cf⟩ : Ah))  (wb := w) (Fb := []) s12.fm QN hr0_1 hr0_2 hr0_3 hx42) fun v44 w45 _ hS48 F47 => ?_
 obtain ⟨v51, v54, rfl, hv52, hq50⟩ := hS48
 have s49 := s12.add hq50
 have hr53 := Fc.rd hv52 hr0_1
 refine An F47 s49 EP rfl rfl fun g56 w57 q58 F59 s60 => ?_
 refine AH F59 s60 rfl rfl Iy (Af (Aj (fR hr53 s60)) (Af (Aj (fO s60 m1)) (Af rfl AM))) (Nat.le_of_ble_eq_true rfl) fun w62 q63 F64 s65 => ?_
 obtain ⟨x94, hx95, H⟩ := bind_ok H
 refine gw 5 F64 rfl fun _ F64 => ?_
 refine AA F64 s65 m0 0 rfl fun _ F96 => ?_
 refine DW F96 s65 (Lu (a0 := (⟨x41.Classes, x41.AO, x41.Fn⟩ : AD))  (hr53.Az s65) (Rd.conv (s65.rd0 m1) s65.fm QN (Conv.iso CV (Conv.pair (Conv.Qk _) (Conv.refl _)))) hx95) 2 rfl rfl rfl rfl fun w98 _ F104 s102 => ?_
 refine B2 17 F104 H (fun hb105 H F106 => ?_) (fun hb105 H F106 => ?_)
 ·cases H
  refine gw 17 F106 rfl fun _ F109 => ?_
  exact rt F109 ⟨rfl, s102.drop.drop.drop⟩
 ·refine gw 4 F106 rfl fun _ F110 => ?_
  refine B2 21 F110 H (fun hb111 H F112 => ?_) (fun hb111 H F112 => ?_)
  ·cases H
   refine gw 13 F112 rfl fun _ F115 => ?_
   exact rt F115 ⟨rfl, s102.drop.drop.drop⟩
  ·refine gw 5 F112 rfl fun _ F116 => ?_
   refine AK F116 H 7 6 rfl rfl rfl (fun hb117 H _ F120 => ?_) (fun hb117 H _ F2233 => ?_)
   ·cases H
    exact rt F120 ⟨rfl, s102.drop.drop.drop⟩
   ·refine AA F2233 s102 m2 0 rfl fun _ F2234 => ?_
    obtain ⟨o3631, H3632, R3633⟩ := bind_ok H
    clear H
    refine gx F2234 (Ao rfl underlying23 (fR hr0_2 s102)) 3 rfl rfl fun _ F2236 => ?_
    refine BB (fun a w_ => ∃ p3634 : Unit, o3631 = .inr (p3634) ∧ Fr a 69 [(1, .int .i64 a1), (2, v2), (4, .pointer (some ⟨g8, 0, none⟩))] ∧ SL w [] w_ [Ae g8 26 [.string ⟨⟨a0.Name⟩⟩, v0_1, v0_2, v0_3]]) ?_ ?_
    ·have H := H3632
     refine gc 1 F2236 rfl fun _ F2236 => ?_
     refine Dk (Bt a0) (fun s3635 a w_ => Fr a 69 [(1, .int .i64 a1), (2, v2), (4, .pointer (some ⟨g8, 0, none⟩)), (26, v0_2), (27, .int .i64 (a0.Funcs.length : Int)), (28, .int .i64 s3635)] ∧ SL w [] w_ [Ae g8 26 [.string ⟨⟨a0.Name⟩⟩, v0_1, v0_2, v0_3]]) H ?_ ?_
     ·exact ⟨F2236.sb, s102.drop.drop⟩
     ·intro s3635 q4158 w4159 hI4160 o4157 H hr
      obtain ⟨F4155, s4156⟩ := hI4160
      replace H : Bt a0 s3635 = some o4157 := H
      unfold Bt at H
      refine gc 6 F4155 rfl fun _ F4162 => ?_
      refine AK F4162 H 6 4 rfl rfl rfl (fun hb4165 H _ F4166 => ?_) (fun hb4165 H _ F4166 => ?_)
      ·obtain ⟨x4275, hx4276, H⟩ := bind_ok H
       obtain ⟨ad4277, cs4280, G4281, hi4278, hc4279, hr4282, hG4283⟩ := Rd.idx hr0_2 FM rfl hx4276
       obtain ⟨v4284, v4286, rfl, hr4285, hr4287⟩ := (C2 hr4282 hG4283)
       replace hc4279 := hc4279 _ _ s4156
       refine gi F4166 hi4278 0 rfl fun _ F4288 => ?_
       refine gx F4288 (Be It rfl hc4279 rfl) 0 rfl rfl fun _ F4289 => ?_
       refine An F4289 s4156 HE rfl rfl fun g4290 w4291 q4292 F4293 s4294 => ?_
       refine AH F4293 s4294 rfl rfl Ji (Af rfl (Af (Aj (fR hr4285 s4294)) (Af rfl (Af rfl (Af (Aj (fR hr4287 s4294)) AM))))) (Nat.le_of_ble_eq_true rfl) fun w4296 q4297 F4298 s4299 => ?_
       refine gw 5 F4298 rfl fun _ F4301 => ?_
       refine AA F4301 s4299 m0 2 rfl fun _ F4303 => ?_
       refine AA F4303 s4299 m0 0 rfl fun _ F4304 => ?_
       refine gx F4304 (Ao rfl underlying63 (fR hr4285 s4299)) 2 rfl rfl fun _ F4306 => ?_
       refine B2 39 F4306 H (fun hb4307 H F4308 => ?_) (fun hb4307 H F4308 => ?_)
       ·cases H
        obtain rfl := hr _ rfl
        replace H := R3633
        try dsimp only at H
        cases H
        refine gw 25 F4308 rfl fun _ F4311 => ?_
        exact rt F4311 ⟨rfl, s4299.drop.drop⟩
       ·refine gw 1 F4308 rfl fun _ F4312 => ?_
        refine Ax F4312 rfl rfl ?_
        refine AA F4312 s4299 m0 3 rfl fun _ F4315 => ?_
        refine B2 44 F4315 H (fun hb4316 H F4317 => ?_) (fun hb4316 H F4317 => ?_)
        ·cases H
         obtain rfl := hr _ rfl
         replace H := R3633
         try dsimp only at H
         cases H
         refine gw 20 F4317 rfl fun _ F4320 => ?_
         exact rt F4320 ⟨rfl, s4299.drop.drop⟩
        ·refine gw 1 F4317 rfl fun _ F4321 => ?_
         refine Ax F4321 rfl rfl ?_
         refine AA F4321 s4299 m0 0 rfl fun _ F4323 => ?_
         refine Ax F4323 rfl rfl ?_
         refine gx F4323 (Ao rfl underlying67 (fR hr4287 s4299)) 4 rfl rfl fun _ F4326 => ?_
         refine AK F4326 H 12 7 rfl rfl rfl (fun hb4327 H _ F4330 => ?_) (fun hb4327 H _ F4331 => ?_)
         ·cases H
          obtain rfl := hr _ rfl
          replace H := R3633
          try dsimp only at H
          cases H
          exact rt F4330 ⟨rfl, s4299.drop.drop⟩
         ·cases H
          exact ⟨_, rfl, F4331.sb, s4299.drop⟩
      ·cases H
       obtain rfl := hr _ rfl
       exact ⟨_, rfl, F4166.sb, s4156⟩
    ·intro q4334 w4335 hJ
     obtain ⟨p3634, rfl, F4332, s4333⟩ := hJ
     have H := R3633
     clear R3633 H3632
     try dsimp only at H
     refine ge 7 F4332 rfl fun _ F4352 => ?_
     refine B2 53 F4352 H (fun hb4353 H F4354 => ?_) (fun hb4353 H F4354 => ?_)
     ·cases H
      refine gw 16 F4354 rfl fun _ F4357 => ?_
      exact rt F4357 ⟨rfl, s4333.drop⟩
     ·refine gw 2 F4354 rfl fun _ F4358 => ?_
      refine Ax F4358 rfl rfl ?_
      refine AA F4358 s4333 m0 0 rfl fun _ F4360 => ?_
      refine Ax F4360 rfl rfl ?_
      refine gx F4360 (Ao rfl underlying23 (fR hr0_2 s4333)) 4 rfl rfl fun _ F4363 => ?_
      refine AK F4363 H 7 5 rfl rfl rfl (fun hb4364 H _ F4367 => ?_) (fun hb4364 H _ F4365 => ?_)
      ·cases H
       exact rt F4367 ⟨rfl, s4333.drop⟩
      ·obtain ⟨x4462, hx4463, H⟩ := bind_ok H
       obtain ⟨ad4464, cs4467, G4468, hi4465, hc4466, hr4469, hG4470⟩ := Rd.idx hr0_2 FM rfl hx4463
       obtain ⟨v4471, v4473, rfl, hr4472, hr4474⟩ := (C2 hr4469 hG4470)
       replace hc4466 := hc4466 _ _ s4333
       obtain ⟨x4475, hx4476, H⟩ := bind_ok H
       refine gw 1 F4365 rfl fun _ F4477 => ?_
       refine AA F4477 s4333 m0 1 rfl fun _ F4479 => ?_
       refine gi F4479 hi4465 0 rfl fun _ F4480 => ?_
       refine gx F4480 (Di Tl rfl) 0 rfl rfl fun _ F4481 => ?_
       refine gx F4481 (Be Iq rfl (Cells.sub hc4466 1 (ds := [v4471, .int .u8 (x4462.Sig.Result.toNat : Int)]) (K4 _ rfl)) rfl) 1 rfl rfl fun _ F4483 => ?_
       refine DW F4483 s4333 (Kc (a0 := (⟨x4462.Sig.Ai, x4462.Sig.Result⟩ : Am))  (hr4472.Az s4333) (hr2.Az s4333) hx4476) 3 rfl rfl rfl rfl fun w4485 _ F4491 s4489 => ?_
       refine AK F4491 H 7 8 rfl rfl rfl (fun hb4492 H _ F4495 => ?_) (fun hb4492 H _ F4497 => ?_)
       ·cases H
        exact rt F4495 ⟨rfl, s4489.drop⟩
       ·cases H
        exact rt F4497 ⟨rfl, s4489.drop⟩
end Go.Proofs.YtpnacdckamiedaaGreat
namespace Go.Proofs.YtpnacdckamiedaaGreat
open Go Go.RowKit Go.Pv Go.Proofs.Tryz
abbrev R2 : BO prog := ⟨⟨[(26, 0, 0, 1), (26, 1, 1, 1), (26, 2, 2, 1), (26, 3, 3, 1), (69, 0, 0, 1), (69, 1, 1, 2), (69, 2, 3, 1), (69, 3, 4, 1), (66, 0, 0, 1), (66, 1, 1, 1), (76, 0, 0, 1), (87, 0, 0, 4), (87, 1, 4, 3), (87, 2, 7, 4), (87, 3, 11, 1), (87, 4, 12, 6), (87, 5, 18, 1), (126, 0, 0, 1), (126, 1, 1, 1), (126, 2, 2, 1), (126, 3, 3, 1)], [25, 26, 27, 28], [3, 4, 22, 23, 63, 64, 67, 72, 94, 27, 95, 30, 88, 85], [(26, 4), (80, 3), (69, 5), (66, 2), (126, 4)]⟩, by kernel_rfl⟩
theorem WO : (prog.info? 61).bind (·.zero) = some (.agg ⟨[]⟩) := by kernel_rfl
theorem XL : HH prog 61 [] = true := by kernel_rfl
theorem Wg : (prog.info? 76).bind (·.zero) = some (.agg ⟨[.pointer none]⟩) := by kernel_rfl
theorem XE : HH prog 76 [(0, 1)] = true := by kernel_rfl
section
variable {w : World} {m : Ah} {entry room : Int} {args : List Int} {v1 v2 v3 va : Value}
theorem Xd {K : MK} {gx : Nat} {S : MS} {w0 w : World} {F0 : List Nat} {ps : List Ck} (hs : SL w0 F0 w (Ae gx 76 [jP K.g] :: BX K S :: ps)) : SL w0 F0 w (MX K gx S :: ps) := by
 obtain ⟨qs, ⟨vc, vt, cs, hL, rfl⟩, h⟩ := SL.Mj hs.f1
 refine K1 (vc := vc) (vt := vt) hL ?_
 have h2 : SL w0 F0 w (mS K vc vt cs S ++ (Ae gx 76 [jP K.g] :: ps)) := h
 exact h2.f5
theorem NM {r : Option MS × Int} (h1 : Rd Ag w [] v1 m.Classes) (h2 : Rd As w [] v2 m.Funcs) (h3 : Rd (Ty.slice Ty.u8) w [] v3 m.Cf) (ha : Rd (Ty.int .i64) w [] va args) (H : I7 m entry args room = some r) :
  Calls prog 12 #[.agg ⟨[.string ⟨⟨m.Name⟩⟩, v1, v2, v3]⟩, .int .i64 entry, va, .int .i64 room] w (AN fun u w_ => (r.1 = none ∧ u = .tuple ⟨[.pointer none, .int .i64 r.2]⟩ ∧ SL w [] w_ []) ∨ ∃ S K gx, r.1 = some S ∧ r.2 = 0 ∧ u = .tuple ⟨[jP gx, .int .i64 0]⟩ ∧ SL w [] w_ (MX K gx S :: TU K S.m)) := by
 letI := R2
 have s0 : SL w [] w [] := SL.Bf w
 have he : ∀ S, r.1 = some S → r.2 = 0 := by
  intro S hS
  unfold I7 at H
  obtain ⟨_, _, H⟩ := bind_ok H
  obtain ⟨_, _, H⟩ := bind_ok H
  split at H
  ·cases H; cases hS
  obtain ⟨x, _, H⟩ := bind_ok H
  split at H
  ·cases H; cases hS
  obtain ⟨_, _, H⟩ := bind_ok H
  split at H
  ·cases H; cases hS
  obtain ⟨_, _, H⟩ := bind_ok H
  obtain ⟨_, _, H⟩ := bind_ok H
  split at H
  ·cases H; cases hS
  obtain ⟨_, _, H⟩ := bind_ok H
  obtain ⟨_, _, H⟩ := bind_ok H
  split at H
  ·cases H; cases hS
  split at H
  ·obtain ⟨_, _, H⟩ := bind_ok H
   obtain ⟨_, _, H⟩ := bind_ok H
   cases H; rfl
  ·cases H
 have hne : r.1 = none → (r.2 != 0) = true := by
  intro hS
  unfold I7 at H
  obtain ⟨_, _, H⟩ := bind_ok H
  obtain ⟨_, _, H⟩ := bind_ok H
  split at H
  ·cases H; rfl
  obtain ⟨x, hx, H⟩ := bind_ok H
  have hx1 : ∀ y, x = .inl y → y = 1 := O5 (I := fun _ => True) (P := fun x : Int ⊕ Unit => ∀ y, x = .inl y → y = 1) hx trivial (fun _ _ _ _ => trivial) (fun i r _ hb => by
   unfold K3 at hb
   split at hb
   ·obtain ⟨_, _, hb⟩ := bind_ok hb
    obtain ⟨_, _, hb⟩ := bind_ok hb
    split at hb
    ·cases hb; rintro y ⟨⟩; rfl
    ·cases hb
   ·cases hb; rintro y ⟨⟩)
  split at H
  ·cases H
   rw [hx1 _ rfl]; rfl
  obtain ⟨_, _, H⟩ := bind_ok H
  split at H
  ·cases H; rfl
  obtain ⟨_, _, H⟩ := bind_ok H
  obtain ⟨_, _, H⟩ := bind_ok H
  split at H
  ·cases H; rfl
  obtain ⟨_, _, H⟩ := bind_ok H
  obtain ⟨_, _, H⟩ := bind_ok H
  split at H
  ·cases H; rfl
  split at H
  ·obtain ⟨_, _, H⟩ := bind_ok H
   obtain ⟨_, _, H⟩ := bind_ok H
   cases H; cases hS
  ·cases H
 refine C9 func12 ntmps12 fun _ F1 => ?_
 refine Bz F1 s0 rfl rfl rfl fun g4 w1 _ F2 s1 => ?_
 refine zw F2 fun _ F3 => ?_
 refine zx F3 (AP (vs := []) WO XL rfl (cs := []) (by rfl)) fun _ F4 => ?_
 refine zx F4 (I5 rfl underlying61 (fun _ h => by cases h)) fun _ F5 => ?_
 refine AE F5 s1 m0 fun _ F6 => ?_
 refine AU F6 (V0 (h1.Az s1) (h2.Az s1) (h3.Az s1) (ha.Az s1) H) fun v w2 _ hS F7 => ?_
 rcases hS with ⟨hn, rfl, hq⟩ | ⟨S, K, hS, rfl, hq⟩
 ·have s2 : SL w [] w2 [Ae g4 26 [.string ⟨⟨m.Name⟩⟩, v1, v2, v3]] := s1.add hq
  refine zw F7 fun _ F8 => ?_
  refine zt F8 (hne hn) fun _ F9 => ?_
  exact rt F9 (.inl ⟨hn, rfl, SL.none_ s2⟩)
 ·have s2 : SL w [] w2 (BX K S :: TU K S.m ++ [Ae g4 26 [.string ⟨⟨m.Name⟩⟩, v1, v2, v3]]) := s1.add hq
  refine zw F7 fun _ F8 => ?_
  refine zf F8 (show (r.2 != 0) = false by rw [he S hS]; rfl) fun _ F9 => ?_
  refine zx F9 (AP (vs := [jP K.g]) Wg XE rfl (cs := [jP K.g]) (by rfl)) fun _ F10 => ?_
  refine Bz F10 s2 rfl rfl rfl fun gx w3 _ F11 s3 => ?_
  refine zw F11 fun _ F12 => ?_
  refine rt F12 (.inr ⟨S, K, gx, hS, he S hS, rfl, ?_⟩)
  exact SL.tk (Xd s3) 4 rfl
end
end Go.Proofs.YtpnacdckamiedaaGreat
namespace Go.Proofs.YtpnacdckamiedaaGreat
open Go Go.RowKit Go.Pv Go.Proofs.Tryz
structure RS where
 m : Ah
 fnv : Int
 room : Int
 used : Int
 things : List MO
 calls : List MC
 told : List Int
 steps : Int
 e : Int
 t : Int
 r : Int
 cells : Int
 ended : Bool
structure RK where
 g : Nat
 v1 : Value
 v2 : Value
 v3 : Value
 e1 : Value
 e2 : Value
 vs : Value
def XC (x : MO) : Int × List Int := (x.cls, x.nums)
def Uh : Ty MO := Ty.iso (Ty.pair (Ty.int .i64) (Ty.slice (Ty.int .i64))) XC
abbrev Uw (K : RK) (vth vc vt : Value) (S : RS) : List Value := [.string ⟨⟨S.m.Name⟩⟩, K.v1, K.v2, K.v3, K.e1, K.e2, .int .i64 S.fnv, K.vs, .int .i64 S.room, .int .i64 S.used, vth, vc, .int .i64 S.e, .int .i64 S.t, .int .i64 S.r, vt, .int .i64 S.steps, .int .i64 S.cells, .bool S.ended]
abbrev mR (K : RK) (vth vc vt : Value) (cs : Lay) (S : RS) : List Ck := [Ae K.g 87 (Uw K vth vc vt S), Sl T_craw vc (Bb cs S.calls).reverse, Fo (HU cs S.calls), Sl (Ty.int .i64) vt S.told, Sl Uh vth S.things]
theorem LL : Dy prog 88 90 2 16 (Gb 2) = true := by kernel_rfl
theorem UM : Dy prog 85 126 4 64 (Gb 4) = true := by kernel_rfl
theorem OO : (prog.info? 90).bind (·.zero) = some (.agg ⟨[.int .i64 0, .int .i64 0]⟩) := by kernel_rfl
theorem VS : HH prog 90 [(0, 1), (1, 1)] = true := by kernel_rfl
theorem QX : (prog.info? 126).bind (·.zero) = some (.agg ⟨[.int .i64 0, .int .i64 0, .slice none 0 0, .slice none 0 0]⟩) := by kernel_rfl
theorem Xo : HH prog 126 [(0, 1), (1, 1), (2, 1), (3, 1)] = true := by kernel_rfl
theorem Xf : (prog.info? 126).map (·.size) = some 4 := by kernel_rfl
theorem XJ : (prog.info? 85).map (·.size) = some 1 := by kernel_rfl
theorem VQ : El prog 126 4 = true := by kernel_rfl
theorem XP : Do prog 85 = true := by kernel_rfl
theorem VO : (prog.info? 84).bind (·.zero) = some (.agg ⟨[.slice none 0 0, .int .i64 0, .int .i64 0, .slice none 0 0]⟩) := by kernel_rfl
theorem XH : HH prog 84 [(0, 1), (1, 1), (2, 1), (3, 1)] = true := by kernel_rfl
theorem VN : (prog.info? 87).bind (·.zero) = some (.agg ⟨[.string ⟨⟨[]⟩⟩, .slice none 0 0, .slice none 0 0, .slice none 0 0, .slice none 0 0, .slice none 0 0, .int .i64 0, .slice none 0 0, .int .i64 0, .int .i64 0, .slice none 0 0, .slice none 0 0, .int .i64 0, .int .i64 0, .int .i64 0, .slice none 0 0, .int .i64 0, .int .i64 0, .bool false]⟩) := by kernel_rfl
theorem XF : HH prog 87 [(0, 4), (4, 3), (7, 4), (11, 1), (12, 6), (18, 1)] = true := by kernel_rfl
def KX (fn : Int) (args : List MV) : RS → Option RS := fun s => (idx s.m.Funcs fn).bind fun f => (Ol 16 f.Ak (⟨0, 0⟩ : MV)).bind fun l =>
 if decide (s.calls.length + 1 ≤ 2199023255552) = true then some { s with calls := ⟨fn, 0, FC l args, []⟩ :: s.calls } else none
section
variable {w : World} {K : RK} {vth vc vt : Value} {cs : Lay} {S : RS} {w0 : World} {F0 : List Nat} {loc : List Ck}
theorem SL.rb (hs : SL w0 F0 w (loc ++ mR K vth vc vt cs S)) : SL w0 F0 w (Ae K.g 87 (Uw K vth vc vt S) :: Sl T_craw vc (Bb cs S.calls).reverse :: Fo (HU cs S.calls) :: Sl (Ty.int .i64) vt S.told :: Sl Uh vth S.things :: loc) := SL.comm hs
theorem Ud {fn : Int} {va : Value} {args : List MV} {S' : RS} (s0 : SL w0 F0 w (loc ++ mR K vth vc vt cs S)) (hl : cs.length = S.calls.length) (hI : Rd As w0 F0 K.v2 S.m.Funcs) (hva : Sl BP va args ∈ loc) (H : KX fn args S = some S') :
  Calls prog 28 #[jP K.g, .int .i64 fn, va] w (AN fun u w_ => u = .tuple #[] ∧ ∃ vc' cs', cs'.length = S'.calls.length ∧ SL w0 F0 w_ (loc ++ mR K vth vc' vt cs' S')) := by
 letI := R2
 unfold KX at H
 obtain ⟨f, hf, H1⟩ := bind_ok H
 obtain ⟨l, hk, H2⟩ := bind_ok H1
 clear H H1
 split at H2 <;> rename_i hlim <;> cases H2
 refine C9 func28 ntmps28 fun _ F1 => ?_
 refine AE F1 (SL.rb s0) m0 fun _ F2 => ?_
 obtain ⟨ad, ccs, G, hI2, hC, hR, hG⟩ := hI.idx J9 rfl hf
 obtain ⟨fv1, fv2, rfl, hRf⟩ := C2 hR hG
 refine sx F2 (hI2 _ _ _ _ _ _ _ _ _ _ rfl rfl) fun _ F3 => ?_
 refine MU F3 Rn D1 (hC _ _ s0) fun _ F4 => ?_
 refine LY DY (⟨0, 0⟩ : MV) F4 s0 LL rfl rfl OO rfl rfl rfl hk rfl fun v w1 _ F5 s1 => ?_
 have hone := Aj (s1.form m0)
 refine zx F5 (AP (vs := [.int .i64 fn, v]) QX Xo rfl (cs := [.int .i64 fn, .int .i64 0, v, .slice none 0 0]) (Dc rfl rfl (by simp) (Dc rfl (AG (s1.form m0)) (by simp) CQ))) fun _ F6 => ?_
 refine An F6 s1 QX rfl rfl fun g6 w2 _ F7 s2 => ?_
 refine A9 (ds := [.int .i64 fn, .int .i64 0, v, .slice none 0 0]) F7 s2 rfl rfl Xf (Af rfl (Af rfl (Af hone (Af rfl AM)))) rfl fun w3 _ F8 s3 => ?_
 refine zw F8 fun _ F9 => ?_
 refine AE F9 s3 m0 fun _ F10 => ?_
 obtain ⟨G2, hG2⟩ := s3.Bm (T := BP) (v := va) (l := args) (.tail _ (.tail _ (List.mem_append_left _ hva)))
 refine Rr DY F10 s3.f1 LL rfl rfl rfl rfl hG2 rfl fun w4 _ F11 s4 => ?_
 refine zw F11 fun _ F12 => ?_
 have hSt : ∀ {w : World} {X : List Ck} {vc : Value} {cs : Lay} {T : RS}, SL w0 F0 w (X ++ mR K vth vc vt cs T) → Ae g6 126 [.int .i64 fn, .int .i64 0, v, .slice none 0 0] ∈ X → w.cell? ⟨K.g, 11, none⟩ = some vc ∧ Cells w ⟨g6, 0, none⟩ [.int .i64 fn, .int .i64 0, v, .slice none 0 0] := fun {w X vc cs T} h hm => ⟨(SL.rb (loc := X) h).Aq m0 rfl, h.E0 (List.mem_append_left _ hm) (o := 0) (fun j u hu => by rw [Nat.zero_add]; exact hu)⟩
 refine BH (fun w_ => w_.cell? ⟨K.g, 11, none⟩ = some vc ∧ Cells w_ ⟨g6, 0, none⟩ [.int .i64 fn, .int .i64 0, v, .slice none 0 0]) [10] Cn (Ce [0, 1, 2, 3, 4, 5] F12 (Bl rfl) (hSt (X := Sl BP v (FC l args) :: Ae g6 126 [.int .i64 fn, .int .i64 0, v, .slice none 0 0] :: loc) s4.drew (.tail _ (.head _))) (QI.ev 4 rfl <| QI.op rfl (fun w hw => Ar XP rfl hw.1) rfl <| QI.op rfl (fun w hw => Be VQ rfl hw.2 rfl) rfl <| QI.nil) fun _ F13 => ?_)
 have sm := SL.rb (loc := Sl BP v (FC l args) :: Ae g6 126 [.int .i64 fn, .int .i64 0, v, .slice none 0 0] :: loc) s4.drew
 have hC2 : ∀ {w : World} {X Y : List Ck}, SL w0 F0 w X → Ae K.g 87 (Uw K vth vc vt S) ∈ X → Ae g6 126 [.int .i64 fn, .int .i64 0, v, .slice none 0 0] ∈ X → w.cell? ⟨K.g, 11, none⟩ = some vc ∧ Cells w ⟨g6, 0, none⟩ [.int .i64 fn, .int .i64 0, v, .slice none 0 0] := fun h h1 h2 => ⟨h.Aq h1 rfl, h.E0 h2 (o := 0) (fun j u hu => by rw [Nat.zero_add]; exact hu)⟩
 refine BN 6 rfl (B7 F13 (sm.C6 G4 ⟨fn, 0, ⟨v, hone⟩, HK⟩) UM rfl rfl rfl rfl rfl fun u w5 _ F14 s5 => A8 ⟨fun _ => hC2 (Y := []) s5 m1 m7, ?_⟩)
 obtain ⟨G3, hG3⟩ := s5.Bm m0
 have happ : app 2199023255552 (Bb cs S.calls).reverse [(⟨fn, 0, ⟨v, hone⟩, HK⟩ : CR)] = some ((Bb cs S.calls).reverse ++ [⟨fn, 0, ⟨v, hone⟩, HK⟩]) := by
  unfold app
  rw [Ab (by rw [Ez hl, List.length_singleton]; simpa using hlim)]
 refine BN 7 rfl (Ba G4 F14 s5.f2 UM rfl rfl rfl rfl hG3 rfl rfl happ rfl fun vc2 w6 _ F15 s6 => A8 ⟨fun _ => hC2 (Y := []) s6 m2 m7, ?_⟩)
 refine Fw 8 rfl F15 (hC2 (Y := []) s6 m2 m7) fun _ F16 => ?_
 refine Fw 9 rfl F16 (hC2 (Y := []) s6 m2 m7) fun _ F17 => ?_
 refine BN 10 rfl (AZ F17 s6.f2 rfl rfl XJ (AG (s6.form m0)) (Aj (s6.form m0)) rfl fun w7 _ F18 s7 => A8 ⟨fun h => by simp [Et] at h, BE ?_⟩)
 refine ze F18 fun _ F19 => ?_
 refine Kd F19 rfl ⟨_, rfl, rfl, vc2, (⟨v, hone⟩, HK) :: cs, by simp [hl], ?_⟩
 have s8 := SL.BF (T := BP) s7.f2.drop
 have s9 := (SL.TM s8.f3.f1.f6).f2.f2
 have s10 : SL w0 F0 w7 (mR K vth vc2 vt ((⟨v, hone⟩, HK) :: cs) { S with calls := ⟨fn, 0, FC l args, []⟩ :: S.calls } ++ (Ae g6 126 [.int .i64 fn, .int .i64 0, v, .slice none 0 0] :: loc)) := by
  have e : (Bb ((⟨v, hone⟩, HK) :: cs) (⟨fn, 0, FC l args, []⟩ :: S.calls)).reverse = (Bb cs S.calls).reverse ++ [⟨fn, 0, ⟨v, hone⟩, HK⟩] := by simp [Bb]
  show SL w0 F0 w7 (_ :: Sl T_craw vc2 (Bb ((⟨v, hone⟩, HK) :: cs) (⟨fn, 0, FC l args, []⟩ :: S.calls)).reverse :: _)
  rw [e]
  exact s9
 exact SL.drop (SL.comm s10)
noncomputable def Jg (f : A3) (args : List Int) (st : List MV × Int) : Option ((List MV × Int) ⊕ List MV) :=
 if decide (st.2 < (f.Sig.Ai.length : Int)) = true then (idx f.Sig.Ai st.2).bind fun t => (idx args st.2).bind fun a => (app 8796093022208 st.1 [(⟨if ((t.toNat : Int) == 2) = true then 2 else 1, a⟩ : MV)]).bind fun l => some (.inl (l, wr (st.2 + 1))) else some (.inr st.1)
def SV (m : Ah) (e : AD) (room : Int) : RS := ⟨m, e.Fn, room, 0, [], [], [], 0, 0, 0, 0, 0, false⟩
noncomputable def Jx (m : Ah) (entry : Int) (args : List Int) (room : Int) : Option (Option (RS × AD) × Int) :=
 (Du m entry args room).bind fun x => if (x != 0) = true then some (none, x) else (DO m).bind fun e => (idx m.Funcs entry).bind fun f => (Ay (Jg f args) ([], 0)).bind fun l => (KX entry l (SV m e room)).bind fun S => some (some (S, e), 0)
set_option maxHeartbeats 1000000 in
theorem PN {m : Ah} {entry room : Int} {args : List Int} {v1 v2 v3 va : Value} {r : Option (RS × AD) × Int} (h1 : Rd Ag w [] v1 m.Classes) (h2 : Rd As w [] v2 m.Funcs) (h3 : Rd (Ty.slice Ty.u8) w [] v3 m.Cf) (ha : Rd (Ty.int .i64) w [] va args) (H : Jx m entry args room = some r) :
  Calls prog 13 #[.agg ⟨[.string ⟨⟨m.Name⟩⟩, v1, v2, v3]⟩, .int .i64 entry, va, .int .i64 room] w (AN fun u w_ => (r.1 = none ∧ u = .tuple ⟨[.pointer none, .int .i64 r.2]⟩ ∧ SL w [] w_ []) ∨ ∃ S e K vc cs, r.1 = some (S, e) ∧ u = .tuple ⟨[jP K.g, .int .i64 0]⟩ ∧ K.v1 = v1 ∧ K.v2 = v2 ∧ K.v3 = v3 ∧ cs.length = S.calls.length ∧ SL w [] w_ (mR K (.slice none 0 0) vc (.slice none 0 0) cs S)) := by
 letI := R2
 have s0 : SL w [] w [] := SL.Bf w
 unfold Jx at H
 obtain ⟨x, hx, H1⟩ := bind_ok H
 clear H
 refine C9 func13 ntmps13 fun _ F1 => ?_
 refine Bz F1 s0 rfl rfl rfl fun g4 w1 _ F2 s1 => ?_
 refine zw F2 fun _ F3 => ?_
 refine AE F3 s1 m0 fun _ F4 => ?_
 refine AU F4 (K2 (h1.Az s1) (h2.Az s1) (h3.Az s1) (ha.Az s1) hx) fun v w2 _ hS F5 => ?_
 obtain ⟨rfl, hq⟩ := hS
 have s2 : SL w [] w2 [Ae g4 26 [.string ⟨⟨m.Name⟩⟩, v1, v2, v3]] := s1.add hq
 refine zw F5 fun _ F6 => ?_
 by_cases hx0 : (x != 0) = true
 ·rw [Ab hx0] at H1
  cases H1
  refine zt F6 hx0 fun _ F7 => ?_
  exact rt F7 (.inl ⟨rfl, rfl, SL.none_ s2⟩)
 rw [Ac hx0] at H1
 obtain ⟨e, he, H2⟩ := bind_ok H1
 obtain ⟨f, hf, H3⟩ := bind_ok H2
 obtain ⟨l, hl, H4⟩ := bind_ok H3
 obtain ⟨S, hen, H5⟩ := bind_ok H4
 cases H5
 clear H1 H2 H3 H4
 refine zf F6 (Bool.eq_false_iff.2 hx0) fun _ F7 => ?_
 refine BH (fun w_ => SL w [] w_ [Ae g4 26 [.string ⟨⟨m.Name⟩⟩, v1, v2, v3]]) [] Cn (Ce [0, 1, 3, 4, 5, 6] F7 (Bl rfl) s2.drew (QI.ld m0 rfl <| QI.ld m0 rfl <| QI.ev 1 rfl <| QI.ld m0 rfl <| QI.ev 1 rfl <| QI.op rfl (fun w hw => AP (vs := [v1, .int .i64 room]) VO XH rfl (cs := [v1, .int .i64 room, .int .i64 0, .slice none 0 0]) (Dc rfl (AG (fR h1 s2)) (by simp) (Dc rfl rfl (by simp) CQ))) rfl <| QI.nil) fun _ F8 => ?_)
 refine BN 2 rfl (AU F8 (IC (wb := w) (Fb := []) s2.drew.fm (by simp) h1 h2 h3 he) fun v w3 _ hS F9 => A8 ⟨fun _ => ?_, ?_⟩)
 ·obtain ⟨u0, u1, rfl, hV, hq3⟩ := hS
  exact SL.drop (s2.drew.add hq3)
 obtain ⟨u0, u1, rfl, hV, hq3⟩ := hS
 have s3 : SL w [] w3 [Sl (Dh w []) u1 e.AO, Ae g4 26 [.string ⟨⟨m.Name⟩⟩, v1, v2, v3]] := s2.drew.add hq3
 refine QW 7 rfl F9 (SL.drop s3) (AP (vs := [.agg ⟨[.string ⟨⟨m.Name⟩⟩, v1, v2, v3]⟩, .agg ⟨[u0, u1, .int .i64 e.Fn]⟩, .agg ⟨[v1, .int .i64 room, .int .i64 0, .slice none 0 0]⟩]) VN XF rfl (cs := [.string ⟨⟨m.Name⟩⟩, v1, v2, v3, u0, u1, .int .i64 e.Fn, v1, .int .i64 room, .int .i64 0, .slice none 0 0, .slice none 0 0, .int .i64 0, .int .i64 0, .int .i64 0, .slice none 0 0, .int .i64 0, .int .i64 0, .bool false]) (by kernel_rfl)) fun _ F10 => ?_
 refine BN 8 rfl (Bz F10 s3 rfl rfl rfl fun gx w4 _ F11 s4 => A8 ⟨fun _ => SL.drop (SL.drop s4), ?_⟩)
 refine Fw 9 rfl F11 (SL.drop (SL.drop s4)) fun _ F12 => BE ?_
 refine ze F12 fun _ F13 => ?_
 refine AE F13 s4 m2 fun _ F14 => ?_
 obtain ⟨ad, ccs, G, hI2, hC, hR, hG⟩ := h2.idx J9 rfl hf
 obtain ⟨fv1, fv2, rfl, hR1, hR2⟩ := C2 hR hG
 refine sx F14 (hI2 _ _ _ _ _ _ _ _ _ _ rfl rfl) fun _ F59 => ?_
 refine sx F59 (Di LP rfl) fun _ F60 => ?_
 refine sx F60 (PX QB rfl rfl) fun _ F61 => ?_
 refine sx F61 (Ar Wm rfl ((hC _ _ s4).at_ (o := 1) rfl)) fun _ F62 => ?_
 obtain ⟨A6, k6, e6⟩ := fR hR1 s4
 refine sx F62 (Ao rfl underlying63 ⟨A6, k6, e6⟩) fun _ F63 => ?_
 refine IQ 3 F63 fun _ F64 => ?_
 refine BB (fun a' w' => ∃ vl, Fr a' 63 [(1, .int .i64 entry), (11, jP gx), (12, vl)] ∧ SL w [] w' (Sl BP vl l :: Ae gx 87 [.string ⟨⟨m.Name⟩⟩, v1, v2, v3, u0, u1, .int .i64 e.Fn, v1, .int .i64 room, .int .i64 0, .slice none 0 0, .slice none 0 0, .int .i64 0, .int .i64 0, .int .i64 0, .slice none 0 0, .int .i64 0, .int .i64 0, .bool false] :: Sl (Dh w []) u1 e.AO :: [Ae g4 26 [.string ⟨⟨m.Name⟩⟩, v1, v2, v3]])) ?_ ?_
 ·refine SE 1 F64 fun _ F64 => ?_
  refine Dk (Jg f args) (fun st a w_ => ∃ vl, Fr a 63 [(1, .int .i64 entry), (2, va), (11, jP gx), (12, vl), (39, fv1), (40, .int .i64 (f.Sig.Ai.length : Int)), (41, .int .i64 st.2)] ∧ SL w [] w_ (Sl BP vl st.1 :: Ae gx 87 [.string ⟨⟨m.Name⟩⟩, v1, v2, v3, u0, u1, .int .i64 e.Fn, v1, .int .i64 room, .int .i64 0, .slice none 0 0, .slice none 0 0, .int .i64 0, .int .i64 0, .int .i64 0, .slice none 0 0, .int .i64 0, .int .i64 0, .bool false] :: Sl (Dh w []) u1 e.AO :: [Ae g4 26 [.string ⟨⟨m.Name⟩⟩, v1, v2, v3]])) hl ⟨.slice none 0 0, F64.sb, SL.BF (T := BP) s4⟩ ?_
  rintro ⟨ls, i⟩ a2 w6 ⟨vl, F65, s15⟩ o Hb hr
  dsimp only at s15
  unfold Jg at Hb
  dsimp only at Hb
  refine zc F65 fun _ F66 => ?_
  by_cases hi : decide (i < (f.Sig.Ai.length : Int)) = true
  ·rw [Ab hi] at Hb
   obtain ⟨t, ht, Hc⟩ := bind_ok Hb
   obtain ⟨ar, har, He⟩ := bind_ok Hc
   obtain ⟨l2, hap, Hf⟩ := bind_ok He
   cases Hf
   clear Hb Hc He
   refine zt F66 hi fun _ F67 => ?_
   obtain ⟨ad3, hI3, hC3⟩ := hR1.Qj Flat.u8 RA rfl ht
   refine zx F67 (hI3 _ _ _ _ _ _ _ _ _ _ rfl rfl) fun _ F68 => ?_
   refine zx F68 (Ar ND rfl (by have := hC3 _ _ s15 0 _ rfl; rwa [add_zero'] at this)) fun _ F69 => ?_
   obtain ⟨ad4, hI4, hC4⟩ := ha.Qj (Flat.int .i64) Kt rfl har
   have hcell : ∀ w' ps, SL w [] w' ps → w'.cell? ad4 = some (.int .i64 ar) := fun w' ps h => by have := hC4 _ _ h 0 _ rfl; rwa [add_zero'] at this
   by_cases h2t : ((t.toNat : Int) == 2) = true
   ·rw [Ab h2t] at hap
    refine zt F69 h2t fun _ F70 => ?_
    refine sx F70 (hI4 _ _ _ _ _ _ _ _ _ _ rfl rfl) fun _ F71 => ?_
    refine zx F71 (Ar D1 rfl (hcell _ _ s15)) fun _ F72 => ?_
    refine zx F72 (AP (vs := [.int .i64 2, .int .i64 ar]) OO VS rfl (cs := [.int .i64 2, .int .i64 ar]) (by rfl)) fun _ F73 => ?_
    refine B7 F73 (s15.C6 DY ⟨2, ar⟩) LL rfl rfl rfl rfl rfl fun u w9 _ F74 s17 => ?_
    obtain ⟨G9, hG9⟩ := s17.Bm m0
    refine Ba DY F74 s17.f1 LL rfl rfl rfl rfl hG9 rfl rfl hap rfl fun v5 w10 _ F75 s18 => ?_
    refine zw F75 fun _ F76 => ?_
    exact ⟨_, rfl, v5, F76.sb, SL.drop s18.f1⟩
   ·rw [Ac h2t] at hap
    refine zf F69 (Bool.eq_false_iff.2 h2t) fun _ F70 => ?_
    refine sx F70 (hI4 _ _ _ _ _ _ _ _ _ _ rfl rfl) fun _ F71 => ?_
    refine zx F71 (Ar D1 rfl (hcell _ _ s15)) fun _ F72 => ?_
    refine zx F72 (AP (vs := [.int .i64 1, .int .i64 ar]) OO VS rfl (cs := [.int .i64 1, .int .i64 ar]) (by rfl)) fun _ F73 => ?_
    refine B7 F73 (s15.C6 DY ⟨1, ar⟩) LL rfl rfl rfl rfl rfl fun u w9 _ F74 s17 => ?_
    obtain ⟨G9, hG9⟩ := s17.Bm m0
    refine Ba DY F74 s17.f1 LL rfl rfl rfl rfl hG9 rfl rfl hap rfl fun v5 w10 _ F75 s18 => ?_
    refine zw F75 fun _ F76 => ?_
    exact ⟨_, rfl, v5, F76.sb, SL.drop s18.f1⟩
  ·rw [Ac hi] at Hb
   cases Hb
   obtain rfl := hr _ rfl
   refine zf F66 (Bool.eq_false_iff.2 hi) fun _ F67 => ?_
   exact ⟨vl, F67.sb, s15⟩
 rintro a3 w15 ⟨vl, F70, s15⟩
 refine ze F70 fun _ F71 => ?_
 let K : RK := ⟨gx, v1, v2, v3, u0, u1, v1⟩
 have t2 := (SL.BF (T := T_craw) (SL.J1 (qs := []) (SL.BF (T := Ty.int .i64) (SL.BF (T := Uh) s15)))).f5.f5
 obtain ⟨F, hst, hF0, hG2, hcl⟩ := SL.open_ (ps := Sl BP vl l :: mR K (.slice none 0 0) (.slice none 0 0) (.slice none 0 0) [] (SV m e room)) t2
 refine AU F71 (Ud (K := K) (loc := [Sl BP vl l]) (SL.init w15 F hst) rfl (h2.pass s15 hF0) (.head _) hen) fun v16 w16 _ hS F72 => ?_
 obtain ⟨rfl, vc', cs', hl', hq16⟩ := hS
 have t4 := SL.drop (hcl _ _ hq16)
 refine zw F72 fun _ F73 => ?_
 refine rt F73 (.inr ⟨S, e, K, vc', cs', rfl, rfl, rfl, rfl, rfl, hl', ?_⟩)
 exact SL.tk t4 5 rfl
end
end Go.Proofs.YtpnacdckamiedaaGreat
namespace Go.Proofs.YtpnacdckamiedaaGreat
open Go Go.RowKit Go.Pv Go.Proofs.Tryz
theorem Hj {w : World} {v0 : Value} {a0 : List Ad} {r : (List Ad)} (hr0 : Rd Ag w [] v0 a0) (H : D6 a0 = some r) :
  Calls prog 22 #[v0] w (AN fun u_ w_ => ∃ u0 : Value, u_ = u0 ∧ SL w [] w_ [Sl Ag u0 r]) := by
 have s0 : SL w [] w [] := SL.Bf w
 refine BV func22 ntmps22 14 rfl rfl rfl fun _ F2660 => ?_
 unfold D6 at H
 obtain ⟨o4421, H4422, R4423⟩ := bind_ok H
 clear H
 refine gx F2660 (Ao rfl underlying22 (fR hr0 s0)) 3 rfl rfl fun _ F2662 => ?_
 refine BB (fun a w_ => ∃ v4424 : Value, Fr a 22 [(3, v4424)] ∧ SL w [] w_ [Sl Ag v4424 o4421]) ?_ ?_
 ·have H := H4422
  refine gc 1 F2662 rfl fun _ F2662 => ?_
  refine Dk (Ci a0) (fun s4426 a w_ => ∃ v4865 : Value, Fr a 22 [(3, v4865), (6, v0), (7, .int .i64 (a0.length : Int)), (8, .int .i64 s4426.2)] ∧ SL w [] w_ [Sl Ag v4865 s4426.1]) H ?_ ?_
  ·exact ⟨(.slice none 0 0), F2662.sb, (SL.BF (T := Ag) s0)⟩
  ·intro s4426 q5087 w5088 hI5089 o5086 H hr
   obtain ⟨v4865, F5084, s5085⟩ := hI5089
   replace H : Ci a0 s4426 = some o5086 := H
   unfold Ci at H
   refine gc 6 F5084 rfl fun _ F5091 => ?_
   refine AK F5091 H 6 4 rfl rfl rfl (fun hb5094 H _ F5095 => ?_) (fun hb5094 H _ F5095 => ?_)
   ·obtain ⟨x5224, hx5225, H⟩ := bind_ok H
    obtain ⟨ad5226, cs5229, G5230, hi5227, hc5228, hr5231, hG5232⟩ := Rd.idx hr0 BK rfl hx5225
    obtain ⟨v5233, rfl, hr5234⟩ := (BC hr5231 hG5232)
    replace hc5228 := hc5228 _ _ s5085
    refine gi F5095 hi5227 0 rfl fun _ F5235 => ?_
    refine gx F5235 (Be Gy rfl hc5228 rfl) 0 rfl rfl fun _ F5236 => ?_
    refine An F5236 s5085 GM rfl rfl fun g5237 w5238 q5239 F5240 s5241 => ?_
    refine AH F5240 s5241 rfl rfl Iv (Af rfl (Af rfl (Af (Aj (fR hr5234 s5241)) AM))) (Nat.le_of_ble_eq_true rfl) fun w5243 q5244 F5245 s5246 => ?_
    obtain ⟨x5267, hx5268, H⟩ := bind_ok H
    refine gw 5 F5245 rfl fun _ F5269 => ?_
    refine AA F5269 s5246 m0 0 rfl fun _ F5270 => ?_
    refine AU F5270 (CP    (hr5234.Az s5246) hx5268) fun v5271 w5272 _ hS5275 F5274 => ?_
    obtain ⟨_, rfl, hq5277⟩ := hS5275
    have s5276 := s5246.add hq5277
    refine gw 1 F5274 rfl fun _ F5280 => ?_
    refine AZ F5280 s5276.f1 rfl rfl KA (AG (fO s5276.f1 m1)) (Aj (fO s5276.f1 m1)) rfl fun w5281 q5282 F5283 s5284 => ?_
    refine gw 4 F5283 rfl fun _ F5286 => ?_
    refine AA F5286 s5284 m0 0 rfl fun _ F5287 => ?_
    have s5295 : SL w [] _ (Dt Ag (⟨x5224.Name, x5224.Al, x5267⟩ : Ad) [.string ⟨⟨x5224.Name⟩⟩, .int .i64 x5224.Al, v5271] :: [Ae g5237 109 [.string ⟨⟨x5224.Name⟩⟩, .int .i64 x5224.Al, v5271], Sl Ag v4865 s4426.1]) := (SL.Ih (f := D2) (x := (⟨x5224.Name, x5224.Al, x5267⟩ : Ad)) (SL.Dj (SL.C6 (SL.Dj (SL.C6 (SL.dsl s5284.f1) (Flat.int .i64) x5224.Al)) Flat.str x5224.Name)))
    refine B7 F5287 s5295 BK rfl (by decide) rfl rfl rfl fun v5288 w5289 q5290 F5291 s5292 => ?_
    obtain ⟨x5296, hx5297, H⟩ := bind_ok H
    refine Dg F5291 s5292.f2 BK rfl rfl rfl rfl rfl rfl hx5297 rfl fun v5298 w5299 q5300 F5301 s5302 => ?_
    cases H
    refine gw 8 F5301 rfl fun _ F5304 => ?_
    exact ⟨_, rfl, v5298, F5304.sb, s5302.f1.drop⟩
   ·cases H
    obtain rfl := hr _ rfl
    exact ⟨v4865, F5095.sb, s5085⟩
 ·intro q5307 w5308 hJ
  obtain ⟨v4424, F5305, s5306⟩ := hJ
  have H := R4423
  clear R4423 H4422
  cases H
  refine ge 8 F5305 rfl fun _ F5310 => ?_
  exact rt F5310 ⟨v4424, rfl, s5306⟩
end Go.Proofs.YtpnacdckamiedaaGreat
namespace Go.Proofs.YtpnacdckamiedaaGreat
open Go Go.RowKit Go.Pv Go.Proofs.Tryz
theorem E9 {w : World} {v0 : Value} {a0 : List UInt8} {r : (List UInt8)} (hr0 : Rd Ty.u8 w [] v0 a0) (H : Cu a0 = some r) :
  Calls prog 24 #[v0] w (AN fun u_ w_ => ∃ u0 : Value, u_ = u0 ∧ SL w [] w_ [Sl Ty.u8 u0 r]) := by
 have s0 : SL w [] w [] := SL.Bf w
 refine BV func24 ntmps24 9 rfl rfl rfl fun _ F29 => ?_
 unfold Cu at H
 obtain ⟨A25, c26, hv27⟩ := Hm (CU hr0 s0)
 refine gx F29 (JG rfl hv27 rfl underlying67) 2 rfl rfl fun _ F30 => ?_
 refine MR F30 rfl (fun hb31 => ?_) (fun hb31 => ?_)
 ·have hn32 := Nt (CU hr0 s0) hv27 (by simpa using hb31)
  replace H := KB (B := some ([] : List UInt8)) H (by simp [hn32, app])
  cases H
  refine gc 7 F30 rfl fun _ F66 => ?_
  exact rt F66 ⟨(.slice none 0 0), rfl, (SL.BF (T := Ty.u8) s0)⟩
 ·refine gc 4 F30 rfl fun _ F30 => ?_
  refine EU (parts := []) Flat.u8 ([] : List UInt8) F30 s0 Gn rfl (by decide) rfl rfl rfl (by simp [Value.cells]) rfl rfl rfl fun v49 w50 q51 F52 s53 => ?_
  obtain ⟨x55, hx56, H⟩ := bind_ok H
  obtain ⟨_, hr_⟩ := (CU hr0 s53)
  refine gw 1 F52 rfl fun _ F57 => ?_
  refine Ba Flat.u8 F57 s53 Gn rfl rfl rfl rfl hr_ rfl rfl hx56 rfl fun v58 w59 q60 F61 s62 => ?_
  cases H
  refine gw 4 F61 rfl fun _ F64 => ?_
  exact rt F64 ⟨v58, rfl, s62⟩
end Go.Proofs.YtpnacdckamiedaaGreat
namespace Go.Proofs.YtpnacdckamiedaaGreat
open Go Go.RowKit Go.Pv Go.Proofs.Tryz
theorem Lx {w : World} {v0_0 : Value} {a0 : Am} {r : Am} (hr0_0 : Rd Ty.u8 w [] v0_0 a0.Ai) (H : EA a0 = some r) :
  Calls prog 37 #[.agg ⟨[v0_0, .int .u8 (a0.Result.toNat : Int)]⟩] w (AN fun u_ w_ => ∃ u0 : Value, u_ = .agg ⟨[u0, .int .u8 (r.Result.toNat : Int)]⟩ ∧ SL w [] w_ [Sl Ty.u8 u0 r.Ai]) := by
 have s0 : SL w [] w [] := SL.Bf w
 refine BV func37 ntmps37 2 rfl rfl rfl fun _ F0 => ?_
 unfold EA at H
 refine Bz F0 s0 rfl rfl rfl fun g13 w14 q15 F16 s17 => ?_
 refine An F16 s17 IF rfl rfl fun g19 w20 q21 F22 s23 => ?_
 obtain ⟨x44, hx45, H⟩ := bind_ok H
 refine gw 5 F22 rfl fun _ F46 => ?_
 refine AA F46 s23 m1 0 rfl fun _ F47 => ?_
 refine AU F47 (Dp    (hr0_0.Az s23) hx45) fun v48 w49 _ hS52 F51 => ?_
 obtain ⟨_, rfl, hq54⟩ := hS52
 have s53 := s23.add hq54
 refine gw 1 F51 rfl fun _ F57 => ?_
 refine AZ F57 s53.f2 rfl rfl Rj (AG (fO s53.f2 m1)) (Aj (fO s53.f2 m1)) rfl fun w58 q59 F60 s61 => ?_
 refine gw 4 F60 rfl fun _ F60 => ?_
 refine AA F60 s61 m0 0 rfl fun _ F69 => ?_
 refine AH F69 s61.f2 rfl rfl LK (Af (Aj (fO s61.f2 m2)) (Af rfl AM)) (Nat.le_of_ble_eq_true rfl) fun w70 q71 F72 s73 => ?_
 cases H
 refine gw 3 F72 rfl fun _ F72 => ?_
 refine B5 (rs := [.cell 2 66]) (vs := [.agg ⟨[v48, .int .u8 (a0.Result.toNat : Int)]⟩]) F72 (by rfl) ⟨_, _, rfl, RV.blk s73 m0 rfl Iq rfl, rfl⟩ ⟨_, rfl, ⟨v48, rfl, s73.drop.drop⟩⟩
end Go.Proofs.YtpnacdckamiedaaGreat
namespace Go.Proofs.YtpnacdckamiedaaGreat
open Go Go.RowKit Go.Pv Go.Proofs.Tryz
theorem Im {w : World} {v0_1 v0_4 : Value} {a0 : A3} {r : A3} (hr0_1 : Rd Ty.u8 w [] v0_1 a0.Sig.Ai) (hr0_4 : Rd Ty.u8 w [] v0_4 a0.Code) (H : Es a0 = some r) :
  Calls prog 23 #[.agg ⟨[.string ⟨⟨a0.Name⟩⟩, v0_1, .int .u8 (a0.Sig.Result.toNat : Int), .int .i64 a0.Ak, v0_4]⟩] w (AN fun u_ w_ => ∃ u0 u1 : Value, u_ = .agg ⟨[.string ⟨⟨r.Name⟩⟩, u0, .int .u8 (r.Sig.Result.toNat : Int), .int .i64 r.Ak, u1]⟩ ∧ SL w [] w_ [Sl Ty.u8 u0 r.Sig.Ai, Sl Ty.u8 u1 r.Code]) := by
 have s0 : SL w [] w [] := SL.Bf w
 refine BV func23 ntmps23 2 rfl rfl rfl fun _ F0 => ?_
 unfold Es at H
 refine Bz F0 s0 rfl rfl rfl fun g13 w14 q15 F16 s17 => ?_
 refine An F16 s17 HE rfl rfl fun g19 w20 q21 F22 s23 => ?_
 obtain ⟨x44, hx45, H⟩ := bind_ok H
 refine gw 5 F22 rfl fun _ F46 => ?_
 refine gx F46 (Be Iq rfl (s23.E0 m1 (o := 1) (ds := [v0_1, .int .u8 (a0.Sig.Result.toNat : Int)]) (K4 _ rfl)) rfl) 0 rfl rfl fun _ F47 => ?_
 refine AU F47 (Lx (a0 := (⟨a0.Sig.Ai, a0.Sig.Result⟩ : Am))   (hr0_1.Az s23) hx45) fun v48 w49 _ hS52 F51 => ?_
 obtain ⟨v55, rfl, hq54⟩ := hS52
 have s53 := s23.add hq54
 refine gw 1 F51 rfl fun _ F57 => ?_
 refine AH F57 s53.f2 rfl rfl LK (Af (Aj (fO s53.f2 m1)) (Af rfl AM)) (Nat.le_of_ble_eq_true rfl) fun w58 q59 F60 s61 => ?_
 obtain ⟨x82, hx83, H⟩ := bind_ok H
 refine gw 5 F60 rfl fun _ F84 => ?_
 refine AA F84 s61 m0 0 rfl fun _ F85 => ?_
 refine AU F85 (E9    (hr0_4.Az s61) hx83) fun v86 w87 _ hS90 F89 => ?_
 obtain ⟨_, rfl, hq92⟩ := hS90
 have s91 := s61.add hq92
 refine gw 1 F89 rfl fun _ F95 => ?_
 refine AZ F95 s91.f1 rfl rfl Mf (AG (fO s91.f1 m1)) (Aj (fO s91.f1 m1)) rfl fun w96 q97 F98 s99 => ?_
 refine gw 4 F98 rfl fun _ F98 => ?_
 refine AA F98 s99 m0 0 rfl fun _ F107 => ?_
 refine AH F107 s99.f3 rfl rfl Ji (Af rfl (Af (Aj (fO s99.f3 m3)) (Af rfl (Af rfl (Af (Aj (fO s99.f3 m2)) AM))))) (Nat.le_of_ble_eq_true rfl) fun w108 q109 F110 s111 => ?_
 cases H
 refine gw 3 F110 rfl fun _ F110 => ?_
 refine B5 (rs := [.cell 2 69]) (vs := [.agg ⟨[.string ⟨⟨a0.Name⟩⟩, v55, .int .u8 (x44.Result.toNat : Int), .int .i64 a0.Ak, v86]⟩]) F110 (by rfl) ⟨_, _, rfl, RV.blk s111 m0 rfl It rfl, rfl⟩ ⟨_, rfl, ⟨v55, v86, rfl, s111.drop.drop.f1⟩⟩
end Go.Proofs.YtpnacdckamiedaaGreat
namespace Go.Proofs.YtpnacdckamiedaaGreat
open Go Go.RowKit Go.Pv Go.Proofs.Tryz
theorem Fz {w : World} {v0_1 v0_2 v0_3 : Value} {a0 : Ah} {r : Ah} (hr0_1 : Rd Ag w [] v0_1 a0.Classes) (hr0_2 : Rd As w [] v0_2 a0.Funcs) (hr0_3 : Rd (Ty.slice Ty.u8) w [] v0_3 a0.Cf) (H : DI a0 = some r) :
  Calls prog 7 #[.agg ⟨[.string ⟨⟨a0.Name⟩⟩, v0_1, v0_2, v0_3]⟩] w (AN fun u_ w_ => ∃ u0 u1 u2 : Value, u_ = .agg ⟨[.string ⟨⟨r.Name⟩⟩, u0, u1, u2]⟩ ∧ SL w [] w_ [Sl Ag u0 r.Classes, Sl As u1 r.Funcs, Sl (Ty.slice Ty.u8) u2 r.Cf]) := by
 have s0 : SL w [] w [] := SL.Bf w
 refine BV func7 ntmps7 2 rfl rfl rfl fun _ F0 => ?_
 unfold DI at H
 refine Bz F0 s0 rfl rfl rfl fun g13 w14 q15 F16 s17 => ?_
 refine An F16 s17 EV rfl rfl fun g19 w20 q21 F22 s23 => ?_
 obtain ⟨x53, hx54, H⟩ := bind_ok H
 refine gw 3 F22 rfl fun _ F22 => ?_
 refine IV DR s23 ?_
 refine hq [0, 1, 2, 3] F22 s23.drew (QI.ev 1 rfl <| QI.ld m1 rfl <| QI.ev 1 rfl <| QI.ld m1 rfl <| QI.nil) (by kernel_rfl) fun _ F11000076 => ?_
 refine Jj [0, 1, 2, 3, 4, 5, 6] (fun a w_ => ∃ g10750077 : Nat, ∃ v10550077 : Value, Fr a 45 [(1, .pointer (some ⟨g13, 0, none⟩)), (2, .pointer (some ⟨g19, 0, none⟩)), (3, .pointer (some ⟨g10750077, 0, none⟩)), (13, .agg ⟨[.string ⟨⟨a0.Name⟩⟩, v10550077, .slice none 0 0, .slice none 0 0]⟩)] ∧ SL w [] w_ [Ae g19 26 [.string ⟨⟨[]⟩⟩, .slice none 0 0, .slice none 0 0, .slice none 0 0], Ae g13 26 [.string ⟨⟨a0.Name⟩⟩, v0_1, v0_2, v0_3], Sl Ag v10550077 x53, Ae g10750077 26 [.string ⟨⟨[]⟩⟩, .slice none 0 0, .slice none 0 0, .slice none 0 0]]) ?_ fun hD0 => ?_
 ·rintro a w_ ⟨g10750077, v10550077, F11501076, s11501076⟩
  refine ho 7 rfl (by kernel_rfl) ?_
  refine AH F11501076 s11501076.f3 rfl rfl Mg (Af rfl (Af (Aj (fO s11501076.f3 m3)) (Af rfl (Af rfl AM)))) (Nat.le_of_ble_eq_true rfl) fun w10850077 q10850078 F10850079 s10850080 => ?_
  refine gw 1 F10850079 rfl fun _ F10850079 => ?_
  refine ⟨s10850080.drop.f2.drop, ?_⟩
  refine Jn (by kernel_rfl) ?_
  refine ge 5 F10850079 rfl fun _ F3785 => ?_
  refine AA F3785 s10850080 m2 0 rfl fun _ F3786 => ?_
  obtain ⟨o6247, H6248, R6249⟩ := bind_ok H
  clear H
  refine gx F3786 (Ao rfl underlying23 (fR hr0_2 s10850080)) 3 rfl rfl fun _ F3788 => ?_
  refine BB (fun a w_ => ∃ v6250 : Value, Fr a 45 [(1, .pointer (some ⟨g13, 0, none⟩)), (2, .pointer (some ⟨g19, 0, none⟩)), (3, .pointer (some ⟨g10750077, 0, none⟩))] ∧ SL w [] w_ [Ae g10750077 26 [.string ⟨⟨a0.Name⟩⟩, v10550077, v6250, .slice none 0 0], Ae g19 26 [.string ⟨⟨[]⟩⟩, .slice none 0 0, .slice none 0 0, .slice none 0 0], Ae g13 26 [.string ⟨⟨a0.Name⟩⟩, v0_1, v0_2, v0_3], Sl Ag v10550077 x53, Sl As v6250 o6247]) ?_ ?_
  ·have H := H6248
   refine gc 1 F3788 rfl fun _ F3788 => ?_
   refine Dk (Cw a0) (fun s6252 a w_ => ∃ v6833 : Value, Fr a 45 [(1, .pointer (some ⟨g13, 0, none⟩)), (2, .pointer (some ⟨g19, 0, none⟩)), (3, .pointer (some ⟨g10750077, 0, none⟩)), (15, v0_2), (16, .int .i64 (a0.Funcs.length : Int)), (17, .int .i64 s6252.2)] ∧ SL w [] w_ [Ae g10750077 26 [.string ⟨⟨a0.Name⟩⟩, v10550077, v6833, .slice none 0 0], Ae g19 26 [.string ⟨⟨[]⟩⟩, .slice none 0 0, .slice none 0 0, .slice none 0 0], Ae g13 26 [.string ⟨⟨a0.Name⟩⟩, v0_1, v0_2, v0_3], Sl Ag v10550077 x53, Sl As v6833 s6252.1]) H ?_ ?_
   ·exact ⟨(.slice none 0 0), F3788.sb, (SL.BF (T := As) s10850080).f4.f4.f4.f4⟩
   ·intro s6252 q7159 w7160 hI7161 o7158 H hr
    obtain ⟨v6833, F7156, s7157⟩ := hI7161
    replace H : Cw a0 s6252 = some o7158 := H
    unfold Cw at H
    refine gc 6 F7156 rfl fun _ F7163 => ?_
    refine AK F7163 H 6 4 rfl rfl rfl (fun hb7166 H _ F7167 => ?_) (fun hb7166 H _ F7167 => ?_)
    ·obtain ⟨x7350, hx7351, H⟩ := bind_ok H
     obtain ⟨ad7352, cs7355, G7356, hi7353, hc7354, hr7357, hG7358⟩ := Rd.idx hr0_2 FM rfl hx7351
     obtain ⟨v7359, v7361, rfl, hr7360, hr7362⟩ := (C2 hr7357 hG7358)
     replace hc7354 := hc7354 _ _ s7157
     refine gi F7167 hi7353 0 rfl fun _ F7363 => ?_
     refine gx F7363 (Be It rfl hc7354 rfl) 0 rfl rfl fun _ F7364 => ?_
     refine An F7364 s7157 HE rfl rfl fun g7365 w7366 q7367 F7368 s7369 => ?_
     refine AH F7368 s7369 rfl rfl Ji (Af rfl (Af (Aj (fR hr7360 s7369)) (Af rfl (Af rfl (Af (Aj (fR hr7362 s7369)) AM))))) (Nat.le_of_ble_eq_true rfl) fun w7371 q7372 F7373 s7374 => ?_
     obtain ⟨x7446, hx7447, H⟩ := bind_ok H
     obtain ⟨x7467, hx7468, H⟩ := bind_ok H
     refine gw 2 F7373 rfl fun _ F7373 => ?_
     refine IV DR s7374.f1.drop.f4.drop ?_
     have s7479 := s7374.drew
     refine hq [0, 2] F7373 s7479.f1.drop.f4.drop (QI.ev 1 rfl <| QI.ld m0 rfl <| QI.nil) (by kernel_rfl) fun _ F21007479 => ?_
     refine Jj [0, 1, 2, 3, 4] (fun a w_ => ∃ v20557480 : Value, Fr a 45 [(1, .pointer (some ⟨g13, 0, none⟩)), (2, .pointer (some ⟨g19, 0, none⟩)), (3, .pointer (some ⟨g10750077, 0, none⟩)), (15, v0_2), (16, .int .i64 (a0.Funcs.length : Int)), (17, .int .i64 s6252.2), (22, v6833), (25, v20557480)] ∧ SL w [] w_ [Ae g7365 69 [.string ⟨⟨x7350.Name⟩⟩, v7359, .int .u8 (x7350.Sig.Result.toNat : Int), .int .i64 x7350.Ak, v7361], Ae g19 26 [.string ⟨⟨[]⟩⟩, .slice none 0 0, .slice none 0 0, .slice none 0 0], Ae g13 26 [.string ⟨⟨a0.Name⟩⟩, v0_1, v0_2, v0_3], Sl Ag v10550077 x53, Ae g10750077 26 [.string ⟨⟨a0.Name⟩⟩, v10550077, v6833, .slice none 0 0], Sl As v20557480 ([(⟨x7446.Name, (⟨x7446.Sig.Ai, x7446.Sig.Result⟩ : Am), x7446.Ak, x7446.Code⟩ : A3)] : List A3), Sl As v6833 s6252.1]) ?_ fun hD0 => ?_
     ·rintro a w_ ⟨v20557480, F21509479, s21509479⟩
      refine ho 5 rfl (by kernel_rfl) ?_
      refine Dg F21509479 s21509479.f5.f6 FM rfl rfl rfl rfl rfl rfl hx7468 rfl fun v20657480 w20657481 q20657482 F20657483 s20657484 => ?_
      refine gw 1 F20657483 rfl fun _ F20657483 => ?_
      refine ⟨s20657484.drop.f4.drop, ?_⟩
      refine hq [6] F20657483 s20657484.drop.f4.drop (QI.ev 1 rfl <| QI.nil) (by kernel_rfl) fun _ F21208479 => ?_
      refine ho 7 rfl (by kernel_rfl) ?_
      refine AZ F21208479 s20657484.f5 rfl rfl QC (AG (fO s20657484.f5 m1)) (Aj (fO s20657484.f5 m1)) rfl fun w20857480 q20857481 F20857482 s20857483 => ?_
      refine gw 1 F20857482 rfl fun _ F20857482 => ?_
      refine ⟨s20857483.drop.drop, ?_⟩
      refine Jn (by kernel_rfl) ?_
      cases H
      refine ge 6 F20857482 rfl fun _ F7480 => ?_
      exact ⟨_, rfl, v20657480, F7480.sb, s20857483.f2.drop.f1.f4.f4.f4.f4⟩
     refine Jj [0, 1, 2, 3] (fun a w_ => ∃ v20457487 : Value, ∃ v20457489 : Value, Fr a 45 [(1, .pointer (some ⟨g13, 0, none⟩)), (2, .pointer (some ⟨g19, 0, none⟩)), (3, .pointer (some ⟨g10750077, 0, none⟩)), (15, v0_2), (16, .int .i64 (a0.Funcs.length : Int)), (17, .int .i64 s6252.2), (22, v6833), (24, .agg ⟨[.string ⟨⟨x7446.Name⟩⟩, v20457487, .int .u8 (x7446.Sig.Result.toNat : Int), .int .i64 x7446.Ak, v20457489]⟩)] ∧ SL w [] w_ [Ae g7365 69 [.string ⟨⟨x7350.Name⟩⟩, v7359, .int .u8 (x7350.Sig.Result.toNat : Int), .int .i64 x7350.Ak, v7361], Ae g19 26 [.string ⟨⟨[]⟩⟩, .slice none 0 0, .slice none 0 0, .slice none 0 0], Ae g13 26 [.string ⟨⟨a0.Name⟩⟩, v0_1, v0_2, v0_3], Sl Ag v10550077 x53, Ae g10750077 26 [.string ⟨⟨a0.Name⟩⟩, v10550077, v6833, .slice none 0 0], Sl Ty.u8 v20457487 x7446.Sig.Ai, Sl Ty.u8 v20457489 x7446.Code, Sl As v6833 s6252.1]) ?_ fun hD1 => ?_
     ·rintro a w_ ⟨v20457487, v20457489, F21510479, s21510479⟩
      refine ho 4 rfl (by kernel_rfl) ?_
      have s20557487 : SL w [] _ (Dt As (⟨x7446.Name, (⟨x7446.Sig.Ai, x7446.Sig.Result⟩ : Am), x7446.Ak, x7446.Code⟩ : A3) [.string ⟨⟨x7446.Name⟩⟩, v20457487, .int .u8 (x7446.Sig.Result.toNat : Int), .int .i64 x7446.Ak, v20457489] :: [Ae g7365 69 [.string ⟨⟨x7350.Name⟩⟩, v7359, .int .u8 (x7350.Sig.Result.toNat : Int), .int .i64 x7350.Ak, v7361], Ae g19 26 [.string ⟨⟨[]⟩⟩, .slice none 0 0, .slice none 0 0, .slice none 0 0], Ae g13 26 [.string ⟨⟨a0.Name⟩⟩, v0_1, v0_2, v0_3], Sl Ag v10550077 x53, Ae g10750077 26 [.string ⟨⟨a0.Name⟩⟩, v10550077, v6833, .slice none 0 0], Sl As v6833 s6252.1]) := (SL.Ih (f := ES) (x := (⟨x7446.Name, (⟨x7446.Sig.Ai, x7446.Sig.Result⟩ : Am), x7446.Ak, x7446.Code⟩ : A3)) (SL.Dj (SL.C6 (SL.Dj (SL.Ih (f := CV) (x := (⟨x7446.Sig.Ai, x7446.Sig.Result⟩ : Am)) (SL.Dj (SL.dsl (SL.C6 (SL.Dj (SL.C6 (SL.dsl s21510479.f6) (Flat.int .i64) x7446.Ak)) Flat.u8 x7446.Sig.Result).f7)))) Flat.str x7446.Name)))
      refine B7 F21510479 s20557487 FM rfl (by decide) rfl rfl rfl fun v20557480 w20557481 q20557482 F20557483 s20557484 => ?_
      refine gw 1 F20557483 rfl fun _ F20557483 => ?_
      exact ⟨s20557484.drop.f4.drop.f4.drop, GV hD0 ⟨v20557480, F20557483.sb, s20557484.f6.f1.f6.f6.f6.f6.f6⟩ (by kernel_rfl)⟩
     refine Hh 1 3 rfl rfl (by kernel_rfl) ?_ ?_
     ·refine AA F21007479 s7479 m1 1 rfl fun _ F20257481 => ?_
      refine ⟨s7479.f1.drop.f4.drop, ?_⟩
      refine ho 3 rfl (by kernel_rfl) ?_
      refine AU F20257481 (Im (a0 := (⟨x7350.Name, (⟨x7350.Sig.Ai, x7350.Sig.Result⟩ : Am), x7350.Ak, x7350.Code⟩ : A3))   (hr7360.Az s7479) (hr7362.Az s7479) hx7447) fun v20457480 w20457481 _ hS20457484 F20457483 => ?_
      obtain ⟨v20457487, v20457489, rfl, hq20457486⟩ := hS20457484
      have s20457485 := s7479.add hq20457486
      refine gw 1 F20457483 rfl fun _ F20457483 => ?_
      exact ⟨s20457485.drop.drop.f1.drop.f4.drop, GV hD1 ⟨v20457487, v20457489, F20457483.sb, s20457485.f7.f2.f2.f4.f7.f7.f7.f7⟩ (by kernel_rfl)⟩
     ·refine AU F21007479 (Im (a0 := (⟨x7350.Name, (⟨x7350.Sig.Ai, x7350.Sig.Result⟩ : Am), x7350.Ak, x7350.Code⟩ : A3))   (hr7360.Az s7479) (hr7362.Az s7479) hx7447) fun v20457480 w20457481 _ hS20457484 F20457483 => ?_
      obtain ⟨v20457487, v20457489, rfl, hq20457486⟩ := hS20457484
      have s20457485 := s7479.add hq20457486
      refine gw 1 F20457483 rfl fun _ F20457483 => ?_
      refine ⟨s20457485.drop.drop.f1.drop.f4.drop, ?_⟩
      refine Hh 1 4 rfl rfl (by kernel_rfl) ?_ ?_
      ·refine AA F20457483 s20457485 m3 1 rfl fun _ F20257481 => ?_
       exact ⟨s20457485.drop.drop.f1.drop.f4.drop, GV hD1 ⟨v20457487, v20457489, F20257481.sb, s20457485.f7.f2.f2.f4.f7.f7.f7.f7⟩ (by kernel_rfl)⟩
      ·have s20557487 : SL w [] _ (Dt As (⟨x7446.Name, (⟨x7446.Sig.Ai, x7446.Sig.Result⟩ : Am), x7446.Ak, x7446.Code⟩ : A3) [.string ⟨⟨x7446.Name⟩⟩, v20457487, .int .u8 (x7446.Sig.Result.toNat : Int), .int .i64 x7446.Ak, v20457489] :: [Ae g7365 69 [.string ⟨⟨x7350.Name⟩⟩, v7359, .int .u8 (x7350.Sig.Result.toNat : Int), .int .i64 x7350.Ak, v7361], Ae g10750077 26 [.string ⟨⟨a0.Name⟩⟩, v10550077, v6833, .slice none 0 0], Ae g19 26 [.string ⟨⟨[]⟩⟩, .slice none 0 0, .slice none 0 0, .slice none 0 0], Ae g13 26 [.string ⟨⟨a0.Name⟩⟩, v0_1, v0_2, v0_3], Sl Ag v10550077 x53, Sl As v6833 s6252.1]) := (SL.Ih (f := ES) (x := (⟨x7446.Name, (⟨x7446.Sig.Ai, x7446.Sig.Result⟩ : Am), x7446.Ak, x7446.Code⟩ : A3)) (SL.Dj (SL.C6 (SL.Dj (SL.Ih (f := CV) (x := (⟨x7446.Sig.Ai, x7446.Sig.Result⟩ : Am)) (SL.Dj (SL.dsl (SL.C6 (SL.Dj (SL.C6 (SL.dsl s20457485.f1) (Flat.int .i64) x7446.Ak)) Flat.u8 x7446.Sig.Result).f2)))) Flat.str x7446.Name)))
       refine B7 F20457483 s20557487 FM rfl (by decide) rfl rfl rfl fun v20557480 w20557481 q20557482 F20557483 s20557484 => ?_
       refine gw 1 F20557483 rfl fun _ F20557483 => ?_
       refine ⟨s20557484.drop.f1.drop.f4.drop, ?_⟩
       refine ho 1 rfl (by kernel_rfl) ?_
       refine AA F20557483 s20557484 m2 1 rfl fun _ F20257481 => ?_
       exact ⟨s20557484.drop.f1.drop.f4.drop, GV hD0 ⟨v20557480, F20257481.sb, s20557484.f6.f1.f3.f6.f6.f6.f6⟩ (by kernel_rfl)⟩
    ·cases H
     obtain rfl := hr _ rfl
     exact ⟨v6833, F7167.sb, s7157⟩
  ·intro q7483 w7484 hJ
   obtain ⟨v6250, F7481, s7482⟩ := hJ
   have H := R6249
   clear R6249 H6248
   refine ge 5 F7481 rfl fun _ F10485 => ?_
   refine AA F10485 s7482 m2 0 rfl fun _ F10486 => ?_
   obtain ⟨o12475, H12476, R12477⟩ := bind_ok H
   clear H
   refine gx F10486 (Ao rfl underlying24 (fR hr0_3 s7482)) 3 rfl rfl fun _ F10488 => ?_
   refine BB (fun a w_ => ∃ v12478 : Value, Fr a 45 [(2, .pointer (some ⟨g19, 0, none⟩)), (3, .pointer (some ⟨g10750077, 0, none⟩))] ∧ SL w [] w_ [Ae g10750077 26 [.string ⟨⟨a0.Name⟩⟩, v10550077, v6250, v12478], Ae g19 26 [.string ⟨⟨[]⟩⟩, .slice none 0 0, .slice none 0 0, .slice none 0 0], Sl Ag v10550077 x53, Sl As v6250 o6247, Sl (Ty.slice Ty.u8) v12478 o12475]) ?_ ?_
   ·have H := H12476
    refine gc 1 F10488 rfl fun _ F10488 => ?_
    refine Dk (Cx a0) (fun s12480 a w_ => ∃ v12945 : Value, Fr a 45 [(2, .pointer (some ⟨g19, 0, none⟩)), (3, .pointer (some ⟨g10750077, 0, none⟩)), (30, v0_3), (31, .int .i64 (a0.Cf.length : Int)), (32, .int .i64 s12480.2)] ∧ SL w [] w_ [Ae g10750077 26 [.string ⟨⟨a0.Name⟩⟩, v10550077, v6250, v12945], Ae g19 26 [.string ⟨⟨[]⟩⟩, .slice none 0 0, .slice none 0 0, .slice none 0 0], Sl Ag v10550077 x53, Sl As v6250 o6247, Sl (Ty.slice Ty.u8) v12945 s12480.1]) H ?_ ?_
    ·exact ⟨(.slice none 0 0), F10488.sb, (SL.BF (T := (Ty.slice Ty.u8)) s7482).f3.drop.f4.f4.f4.f4⟩
    ·intro s12480 q13211 w13212 hI13213 o13210 H hr
     obtain ⟨v12945, F13208, s13209⟩ := hI13213
     replace H : Cx a0 s12480 = some o13210 := H
     unfold Cx at H
     refine gc 6 F13208 rfl fun _ F13215 => ?_
     refine AK F13215 H 6 4 rfl rfl rfl (fun hb13218 H _ F13219 => ?_) (fun hb13218 H _ F13219 => ?_)
     ·obtain ⟨x13360, hx13361, H⟩ := bind_ok H
      obtain ⟨ad13362, cs13365, G13366, hi13363, hc13364, hr13367, hG13368⟩ := Rd.idx hr0_3 LM rfl hx13361
      obtain ⟨v13369, rfl, hr13370⟩ := (X4 hr13367 hG13368)
      replace hc13364 := hc13364 _ _ s13209
      refine gi F13219 hi13363 0 rfl fun _ F13371 => ?_
      obtain ⟨x13440, hx13441, H⟩ := bind_ok H
      obtain ⟨x13459, hx13460, H⟩ := bind_ok H
      refine gx F13371 (Ar Uj rfl (Cells.at_ hc13364 (o := 0) rfl)) 3 rfl rfl fun _ F13373 => ?_
      refine IV DR s13209.drop.f3.drop ?_
      have s13471 := s13209.drew
      refine hq [0, 2] F13373 s13471.drop.f3.drop (QI.ev 2 rfl <| QI.nil) (by kernel_rfl) fun _ F21013471 => ?_
      refine Jj [0, 1, 2, 3, 4] (fun a w_ => ∃ v20563472 : Value, Fr a 45 [(2, .pointer (some ⟨g19, 0, none⟩)), (3, .pointer (some ⟨g10750077, 0, none⟩)), (30, v0_3), (31, .int .i64 (a0.Cf.length : Int)), (32, .int .i64 s12480.2), (37, v12945), (40, v20563472)] ∧ SL w [] w_ [Ae g19 26 [.string ⟨⟨[]⟩⟩, .slice none 0 0, .slice none 0 0, .slice none 0 0], Sl Ag v10550077 x53, Sl As v6250 o6247, Ae g10750077 26 [.string ⟨⟨a0.Name⟩⟩, v10550077, v6250, v12945], Sl (Ty.slice Ty.u8) v12945 s12480.1, Sl (Ty.slice Ty.u8) v20563472 ([x13440] : List (List UInt8))]) ?_ fun hD0 => ?_
      ·rintro a w_ ⟨v20563472, F21515471, s21515471⟩
       refine ho 5 rfl (by kernel_rfl) ?_
       refine Dg F21515471 s21515471.f5.f5 LM rfl rfl rfl rfl rfl rfl hx13460 rfl fun v20663472 w20663473 q20663474 F20663475 s20663476 => ?_
       refine gw 1 F20663475 rfl fun _ F20663475 => ?_
       refine ⟨s20663476.drop.f3.drop, ?_⟩
       refine hq [6] F20663475 s20663476.drop.f3.drop (QI.ev 1 rfl <| QI.nil) (by kernel_rfl) fun _ F21214471 => ?_
       refine ho 7 rfl (by kernel_rfl) ?_
       refine AZ F21214471 s20663476.f4 rfl rfl Vo (AG (fO s20663476.f4 m1)) (Aj (fO s20663476.f4 m1)) rfl fun w20863472 q20863473 F20863474 s20863475 => ?_
       refine gw 1 F20863474 rfl fun _ F20863474 => ?_
       refine ⟨s20863475.drop.drop, ?_⟩
       refine Jn (by kernel_rfl) ?_
       cases H
       refine ge 6 F20863474 rfl fun _ F13472 => ?_
       exact ⟨_, rfl, v20663472, F13472.sb, s20863475.f1.f4.f4.f4.f4⟩
      refine Jj [0, 1, 2, 3] (fun a w_ => ∃ v20463472 : Value, Fr a 45 [(2, .pointer (some ⟨g19, 0, none⟩)), (3, .pointer (some ⟨g10750077, 0, none⟩)), (30, v0_3), (31, .int .i64 (a0.Cf.length : Int)), (32, .int .i64 s12480.2), (37, v12945), (39, v20463472)] ∧ SL w [] w_ [Ae g19 26 [.string ⟨⟨[]⟩⟩, .slice none 0 0, .slice none 0 0, .slice none 0 0], Sl Ag v10550077 x53, Sl As v6250 o6247, Ae g10750077 26 [.string ⟨⟨a0.Name⟩⟩, v10550077, v6250, v12945], Sl (Ty.slice Ty.u8) v12945 s12480.1, Sl Ty.u8 v20463472 x13440]) ?_ fun hD1 => ?_
      ·rintro a w_ ⟨v20463472, F21516471, s21516471⟩
       refine ho 4 rfl (by kernel_rfl) ?_
       have hv20563478 := (fO s21516471 m5)
       have s20563479 : SL w [] _ (Dt (Ty.slice Ty.u8) x13440 [v20463472] :: [Ae g19 26 [.string ⟨⟨[]⟩⟩, .slice none 0 0, .slice none 0 0, .slice none 0 0], Sl Ag v10550077 x53, Sl As v6250 o6247, Ae g10750077 26 [.string ⟨⟨a0.Name⟩⟩, v10550077, v6250, v12945], Sl (Ty.slice Ty.u8) v12945 s12480.1]) := (SL.dsl s21516471.f5)
       refine B7 F21516471 s20563479 LM rfl (by decide) rfl (AG hv20563478) rfl fun v20563472 w20563473 q20563474 F20563475 s20563476 => ?_
       refine gw 1 F20563475 rfl fun _ F20563475 => ?_
       exact ⟨s20563476.drop.f3.drop.f3.drop, GV hD0 ⟨v20563472, F20563475.sb, s20563476.f5.f5.f5.f5.f5⟩ (by kernel_rfl)⟩
      refine Hh 1 3 rfl rfl (by kernel_rfl) ?_ ?_
      ·refine AA F21013471 s13471 m0 1 rfl fun _ F20263473 => ?_
       refine ⟨s13471.drop.f3.drop, ?_⟩
       refine ho 3 rfl (by kernel_rfl) ?_
       refine AU F20263473 (E9    (hr13370.Az s13471) hx13441) fun v20463472 w20463473 _ hS20463476 F20463475 => ?_
       obtain ⟨_, rfl, hq20463478⟩ := hS20463476
       have s20463477 := s13471.add hq20463478
       refine gw 1 F20463475 rfl fun _ F20463475 => ?_
       exact ⟨s20463477.drop.drop.f3.drop, GV hD1 ⟨v20463472, F20463475.sb, s20463477.f5.f2.f5.f5.f5⟩ (by kernel_rfl)⟩
      ·refine AU F21013471 (E9    (hr13370.Az s13471) hx13441) fun v20463472 w20463473 _ hS20463476 F20463475 => ?_
       obtain ⟨_, rfl, hq20463478⟩ := hS20463476
       have s20463477 := s13471.add hq20463478
       refine gw 1 F20463475 rfl fun _ F20463475 => ?_
       refine ⟨s20463477.drop.drop.f3.drop, ?_⟩
       refine Hh 1 4 rfl rfl (by kernel_rfl) ?_ ?_
       ·refine AA F20463475 s20463477 m1 1 rfl fun _ F20263473 => ?_
        exact ⟨s20463477.drop.drop.f3.drop, GV hD1 ⟨v20463472, F20263473.sb, s20463477.f5.f2.f5.f5.f5⟩ (by kernel_rfl)⟩
       ·have hv20563478 := (fO s20463477 m0)
        have s20563479 : SL w [] _ (Dt (Ty.slice Ty.u8) x13440 [v20463472] :: [Ae g10750077 26 [.string ⟨⟨a0.Name⟩⟩, v10550077, v6250, v12945], Ae g19 26 [.string ⟨⟨[]⟩⟩, .slice none 0 0, .slice none 0 0, .slice none 0 0], Sl Ag v10550077 x53, Sl As v6250 o6247, Sl (Ty.slice Ty.u8) v12945 s12480.1]) := (SL.dsl s20463477)
        refine B7 F20463475 s20563479 LM rfl (by decide) rfl (AG hv20563478) rfl fun v20563472 w20563473 q20563474 F20563475 s20563476 => ?_
        refine gw 1 F20563475 rfl fun _ F20563475 => ?_
        refine ⟨s20563476.drop.drop.f3.drop, ?_⟩
        refine ho 1 rfl (by kernel_rfl) ?_
        refine AA F20563475 s20563476 m1 1 rfl fun _ F20263473 => ?_
        exact ⟨s20563476.drop.drop.f3.drop, GV hD0 ⟨v20563472, F20263473.sb, s20563476.f5.f2.f5.f5.f5⟩ (by kernel_rfl)⟩
     ·cases H
      obtain rfl := hr _ rfl
      exact ⟨v12945, F13219.sb, s13209⟩
   ·intro q13475 w13476 hJ
    obtain ⟨v12478, F13473, s13474⟩ := hJ
    have H := R12477
    clear R12477 H12476
    refine ge 3 F13473 rfl fun _ F13473 => ?_
    refine AA F13473 s13474 m0 0 rfl fun _ F13483 => ?_
    refine AH F13483 s13474.f1 rfl rfl Mg (Af rfl (Af (Aj (fO s13474.f1 m2)) (Af (Aj (fO s13474.f1 m3)) (Af (Aj (fO s13474.f1 m4)) AM)))) (Nat.le_of_ble_eq_true rfl) fun w13484 q13485 F13486 s13487 => ?_
    cases H
    refine gw 3 F13486 rfl fun _ F13486 => ?_
    refine B5 (rs := [.cell 2 26]) (vs := [.agg ⟨[.string ⟨⟨a0.Name⟩⟩, v10550077, v6250, v12478]⟩]) F13486 (by rfl) ⟨_, _, rfl, RV.blk s13487 m0 rfl Qa rfl, rfl⟩ ⟨_, rfl, ⟨v10550077, v6250, v12478, rfl, s13487.drop.drop⟩⟩
 refine Jj [0, 1, 2, 3, 4, 6] (fun a w_ => ∃ g10750077 : Nat, ∃ v10550077 : Value, Fr a 45 [(1, .pointer (some ⟨g13, 0, none⟩)), (2, .pointer (some ⟨g19, 0, none⟩)), (3, .pointer (some ⟨g10750077, 0, none⟩)), (9, .string ⟨⟨a0.Name⟩⟩), (12, v10550077)] ∧ SL w [] w_ [Ae g19 26 [.string ⟨⟨[]⟩⟩, .slice none 0 0, .slice none 0 0, .slice none 0 0], Ae g13 26 [.string ⟨⟨a0.Name⟩⟩, v0_1, v0_2, v0_3], Sl Ag v10550077 x53, Ae g10750077 26 [.string ⟨⟨[]⟩⟩, .slice none 0 0, .slice none 0 0, .slice none 0 0]]) ?_ fun hD1 => ?_
 ·rintro a w_ ⟨g10750077, v10550077, F11503076, s11503076⟩
  refine ho 5 rfl (by kernel_rfl) ?_
  have hv64 := (fO s11503076 m2)
  refine gx F11503076 (AP (vs := [.string ⟨⟨a0.Name⟩⟩, v10550077]) EV NG rfl (cs := [.string ⟨⟨a0.Name⟩⟩, v10550077, .slice none 0 0, .slice none 0 0]) (by obtain ⟨_, _, e_0⟩ := hv64; rw [e_0] <;> rfl)) 1 rfl rfl fun _ F10650078 => ?_
  exact ⟨s11503076.f2.drop.f2.drop, GV hD0 ⟨g10750077, v10550077, F10650078.sb, s11503076⟩ (by kernel_rfl)⟩
 refine Hh 4 6 rfl rfl (by kernel_rfl) ?_ ?_
 ·refine AU F11000076 (Hj    (hr0_1.Az s23.drew) hx54) fun v10550077 w10550078 _ hS10550081 F10550080 => ?_
  obtain ⟨_, rfl, hq10550083⟩ := hS10550081
  have s10550082 := s23.drew.add hq10550083
  refine gw 1 F10550080 rfl fun _ F10550080 => ?_
  refine ⟨s10550082.drop, ?_⟩
  refine Hh 5 6 rfl rfl (by kernel_rfl) ?_ ?_
  ·have hv64 := (fO s10550082 m0)
   refine gx F10550080 (AP (vs := [.string ⟨⟨a0.Name⟩⟩, v10550077]) EV NG rfl (cs := [.string ⟨⟨a0.Name⟩⟩, v10550077, .slice none 0 0, .slice none 0 0]) (by obtain ⟨_, _, e_0⟩ := hv64; rw [e_0] <;> rfl)) 1 rfl rfl fun _ F10650078 => ?_
   refine ⟨s10550082.drop, ?_⟩
   refine ho 6 rfl (by kernel_rfl) ?_
   refine An F10650078 s10550082 EV rfl rfl fun g10750077 w10750078 q10750079 F10750080 s10750081 => ?_
   refine gw 1 F10750080 rfl fun _ F10750080 => ?_
   exact ⟨s10750081.drop.drop, GV hD0 ⟨g10750077, v10550077, F10750080.sb, s10750081.f1.f3.f3⟩ (by kernel_rfl)⟩
  ·refine An F10550080 s10550082 EV rfl rfl fun g10750077 w10750078 q10750079 F10750080 s10750081 => ?_
   refine gw 1 F10750080 rfl fun _ F10750080 => ?_
   exact ⟨s10750081.drop.drop, GV hD1 ⟨g10750077, v10550077, F10750080.sb, s10750081.f1.f3.f3⟩ (by kernel_rfl)⟩
 ·refine An F11000076 s23.drew EV rfl rfl fun g10750077 w10750078 q10750079 F10750080 s10750081 => ?_
  refine gw 1 F10750080 rfl fun _ F10750080 => ?_
  refine ⟨s10750081.drop, ?_⟩
  refine ho 4 rfl (by kernel_rfl) ?_
  refine AU F10750080 (Hj    (hr0_1.Az s10750081) hx54) fun v10550077 w10550078 _ hS10550081 F10550080 => ?_
  obtain ⟨_, rfl, hq10550083⟩ := hS10550081
  have s10550082 := s10750081.add hq10550083
  refine gw 1 F10550080 rfl fun _ F10550080 => ?_
  exact ⟨s10550082.drop.drop, GV hD1 ⟨g10750077, v10550077, F10550080.sb, s10550082.f1.f1.f3.f3⟩ (by kernel_rfl)⟩
end Go.Proofs.YtpnacdckamiedaaGreat
namespace Go.Proofs.YtpnacdckamiedaaGreat
open Go Go.RowKit Go.Pv Go.Proofs.Tryz
theorem Ff {w : World} {v0 : Value} {a0 : List Int} {r : (List Int)} (hr0 : Rd (Ty.int .i64) w [] v0 a0) (H : D8 a0 = some r) :
  Calls prog 8 #[v0] w (AN fun u_ w_ => ∃ u0 : Value, u_ = u0 ∧ SL w [] w_ [Sl (Ty.int .i64) u0 r]) := by
 have s0 : SL w [] w [] := SL.Bf w
 refine BV func8 ntmps8 9 rfl rfl rfl fun _ F29 => ?_
 unfold D8 at H
 obtain ⟨A25, c26, hv27⟩ := Hm (CU hr0 s0)
 refine gx F29 (JG rfl hv27 rfl underlying27) 2 rfl rfl fun _ F30 => ?_
 refine MR F30 rfl (fun hb31 => ?_) (fun hb31 => ?_)
 ·have hn32 := Nt (CU hr0 s0) hv27 (by simpa using hb31)
  replace H := KB (B := some ([] : List Int)) H (by simp [hn32, app])
  cases H
  refine gc 7 F30 rfl fun _ F66 => ?_
  exact rt F66 ⟨(.slice none 0 0), rfl, (SL.BF (T := (Ty.int .i64)) s0)⟩
 ·refine gc 4 F30 rfl fun _ F30 => ?_
  refine EU (parts := []) (Flat.int .i64) ([] : List Int) F30 s0 EL rfl (by decide) rfl rfl rfl (by simp [Value.cells]) rfl rfl rfl fun v49 w50 q51 F52 s53 => ?_
  obtain ⟨x55, hx56, H⟩ := bind_ok H
  obtain ⟨_, hr_⟩ := (CU hr0 s53)
  refine gw 1 F52 rfl fun _ F57 => ?_
  refine Ba (Flat.int .i64) F57 s53 EL rfl rfl rfl rfl hr_ rfl rfl hx56 rfl fun v58 w59 q60 F61 s62 => ?_
  cases H
  refine gw 4 F61 rfl fun _ F64 => ?_
  exact rt F64 ⟨v58, rfl, s62⟩
end Go.Proofs.YtpnacdckamiedaaGreat
namespace Go.Proofs.YtpnacdckamiedaaGreat
open Go Go.RowKit Go.Pv Go.Proofs.Tryz
theorem JM {w : World} {v0 v1 : Value} {a0 : List Int} {a1 : List Int} {r : Bool} (hr0 : Rd (Ty.int .i64) w [] v0 a0) (hr1 : Rd (Ty.int .i64) w [] v1 a1) (H : D4 a0 a1 = some r) :
  Calls prog 11 #[v0, v1] w (AN fun u_ w_ => u_ = .bool r ∧ SL w [] w_ []) := by
 have s0 : SL w [] w [] := SL.Bf w
 refine BV func11 ntmps11 9 rfl rfl rfl fun _ F22 => ?_
 unfold D4 at H
 refine gx F22 (Ao rfl underlying27 (fR hr0 s0)) 1 rfl rfl fun _ F24 => ?_
 refine gx F24 (Ao rfl underlying27 (fR hr1 s0)) 3 rfl rfl fun _ F26 => ?_
 refine AK F26 H 7 6 rfl rfl rfl (fun hb27 H _ F30 => ?_) (fun hb27 H _ F988 => ?_)
 ·cases H
  exact rt F30 ⟨rfl, s0⟩
 ·obtain ⟨o1617, H1618, R1619⟩ := bind_ok H
  clear H
  refine gx F988 (Ao rfl underlying27 (fR hr0 s0)) 3 rfl rfl fun _ F990 => ?_
  refine BB (fun a w_ => ∃ p1620 : Unit, o1617 = .inr (p1620) ∧ Fr a 26 [] ∧ SL w [] w_ []) ?_ ?_
  ·have H := H1618
   refine gc 1 F990 rfl fun _ F990 => ?_
   refine Dk (Ch a0 a1) (fun s1621 a w_ => Fr a 26 [(0, v0), (1, v1), (12, .int .i64 (a0.length : Int)), (13, .int .i64 s1621)] ∧ SL w [] w_ []) H ?_ ?_
   ·exact ⟨F990.sb, s0⟩
   ·intro s1621 q1856 w1857 hI1858 o1855 H hr
    obtain ⟨F1853, s1854⟩ := hI1858
    replace H : Ch a0 a1 s1621 = some o1855 := H
    unfold Ch at H
    refine gc 6 F1853 rfl fun _ F1860 => ?_
    refine AK F1860 H 11 4 rfl rfl rfl (fun hb1863 H _ F1900 => ?_) (fun hb1863 H _ F1864 => ?_)
    ·obtain ⟨x1915, hx1916, H⟩ := bind_ok H
     obtain ⟨ad1917, hi1918, hc1919⟩ := WM (Flat.int .i64) (fun _ hC => (CU hr0 hC)) s1854 EL rfl hx1916
     obtain ⟨x1920, hx1921, H⟩ := bind_ok H
     obtain ⟨ad1922, hi1923, hc1924⟩ := WM (Flat.int .i64) (fun _ hC => (CU hr1 hC)) s1854 EL rfl hx1921
     refine N8 DR s1854 F1900 (QR.ev 2 rfl <| QR.ix hi1918 rfl <| QR.qo (fun _ hC => Ar Gg rfl (Cells.at_ (hc1919 _ hC) (o := 0) rfl)) rfl <| QR.ev 2 rfl <| QR.ix hi1923 rfl <| QR.qo (fun _ hC => Ar Gg rfl (Cells.at_ (hc1924 _ hC) (o := 0) rfl)) rfl <| QR.ev 1 rfl <| QR.nil) fun w1928 q1926 s1925 F1927 => ?_
     refine ge 1 F1927 rfl fun _ F1927 => ?_
     refine AK F1927 H 12 7 rfl rfl rfl (fun hb1929 H _ F1932 => ?_) (fun hb1929 H _ F1933 => ?_)
     ·cases H
      obtain rfl := hr _ rfl
      replace H := R1619
      try dsimp only at H
      cases H
      exact rt F1932 ⟨rfl, s1925⟩
     ·cases H
      exact ⟨_, rfl, F1933.sb, s1925⟩
    ·cases H
     obtain rfl := hr _ rfl
     exact ⟨_, rfl, F1864.sb, s1854⟩
  ·intro q1936 w1937 hJ
   obtain ⟨p1620, rfl, F1934, s1935⟩ := hJ
   have H := R1619
   clear R1619 H1618
   try dsimp only at H
   cases H
   refine ge 7 F1934 rfl fun _ F1939 => ?_
   exact rt F1939 ⟨rfl, s1935⟩
end Go.Proofs.YtpnacdckamiedaaGreat
namespace Go.Proofs.YtpnacdckamiedaaGreat
open Go Go.RowKit Go.Pv Go.Proofs.Tryz
theorem Ga {w : World} {v0_3 v1_3 : Value} {a0 : CJ} {a1 : CJ} {r : Bool} (hr0_3 : Rd (Ty.int .i64) w [] v0_3 a0.Told) (hr1_3 : Rd (Ty.int .i64) w [] v1_3 a1.Told) (H : CC a0 a1 = some r) :
  Calls prog 9 #[.agg ⟨[.int .i64 a0.Err, .int .i64 a0.Qh, .int .i64 a0.Result, v0_3, .int .i64 a0.Steps, .int .i64 a0.Cells]⟩, .agg ⟨[.int .i64 a1.Err, .int .i64 a1.Qh, .int .i64 a1.Result, v1_3, .int .i64 a1.Steps, .int .i64 a1.Cells]⟩] w (AN fun u_ w_ => u_ = .bool r ∧ SL w [] w_ []) := by
 have s0 : SL w [] w [] := SL.Bf w
 refine BV func9 ntmps9 2 rfl rfl rfl fun _ F0 => ?_
 unfold CC at H
 refine Bz F0 s0 rfl rfl rfl fun g14 w15 q16 F17 s18 => ?_
 refine Bz F17 s18 rfl rfl rfl fun g20 w21 q22 F23 s24 => ?_
 refine gw 6 F23 rfl fun _ F91 => ?_
 refine AA F91 s24 m1 1 rfl fun _ F93 => ?_
 refine AA F93 s24 m0 2 rfl fun _ F95 => ?_
 refine B2 10 F95 H (fun hb96 H F97 => ?_) (fun hb96 H F97 => ?_)
 ·refine gw 1 F97 rfl fun _ F98 => ?_
  refine Ax F98 rfl rfl ?_
  refine AA F98 s24 m1 1 rfl fun _ F101 => ?_
  refine Ax F101 rfl rfl ?_
  refine AA F101 s24 m0 3 rfl fun _ F104 => ?_
  refine B2 17 F104 H (fun hb105 H F106 => ?_) (fun hb105 H F106 => ?_)
  ·refine gw 1 F106 rfl fun _ F107 => ?_
   refine Ax F107 rfl rfl ?_
   refine AA F107 s24 m1 1 rfl fun _ F110 => ?_
   refine Ax F110 rfl rfl ?_
   refine AA F110 s24 m0 3 rfl fun _ F113 => ?_
   refine B2 24 F113 H (fun hb114 H F115 => ?_) (fun hb114 H F115 => ?_)
   ·refine gw 1 F115 rfl fun _ F116 => ?_
    refine Ax F116 rfl rfl ?_
    refine AA F116 s24 m1 1 rfl fun _ F119 => ?_
    refine Ax F119 rfl rfl ?_
    refine AA F119 s24 m0 3 rfl fun _ F122 => ?_
    refine B2 31 F122 H (fun hb123 H F124 => ?_) (fun hb123 H F124 => ?_)
    ·refine gw 1 F124 rfl fun _ F125 => ?_
     refine Ax F125 rfl rfl ?_
     refine AA F125 s24 m1 1 rfl fun _ F128 => ?_
     refine Ax F128 rfl rfl ?_
     refine AA F128 s24 m0 3 rfl fun _ F131 => ?_
     refine B2 38 F131 H (fun hb132 H F133 => ?_) (fun hb132 H F133 => ?_)
     ·refine gw 1 F133 rfl fun _ F134 => ?_
      refine Ax F134 rfl rfl ?_
      refine AA F134 s24 m1 1 rfl fun _ F137 => ?_
      refine Ax F137 rfl rfl ?_
      refine AA F137 s24 m0 0 rfl fun _ F139 => ?_
      obtain ⟨x140, hx141, H⟩ := bind_ok H
      refine Ax F139 rfl rfl ?_
      refine DW F139 s24 (JM   (hr0_3.Az s24) (hr1_3.Az s24) hx141) 5 rfl rfl rfl rfl fun w143 _ F149 s147 => ?_
      cases H
      exact rt F149 ⟨rfl, s147.drop.drop⟩
     ·cases H
      refine gw 10 F133 rfl fun _ F150 => ?_
      exact rt F150 ⟨rfl, s24.drop.drop⟩
    ·cases H
     refine gw 17 F124 rfl fun _ F151 => ?_
     exact rt F151 ⟨rfl, s24.drop.drop⟩
   ·cases H
    refine gw 24 F115 rfl fun _ F152 => ?_
    exact rt F152 ⟨rfl, s24.drop.drop⟩
  ·cases H
   refine gw 31 F106 rfl fun _ F153 => ?_
   exact rt F153 ⟨rfl, s24.drop.drop⟩
 ·cases H
  refine gw 38 F97 rfl fun _ F154 => ?_
  exact rt F154 ⟨rfl, s24.drop.drop⟩
end Go.Proofs.YtpnacdckamiedaaGreat
namespace Go.Proofs.YtpnacdckamiedaaGreat
open Go Go.RowKit Go.Pv Go.Proofs.Tryz
structure BJ where
 Entry : Int
 LD : List Int
 Fuel : Int
 Room : Int
def EE (x : BJ) := (x.Entry, x.LD, x.Fuel, x.Room)
def Il : Ty BJ := Ty.iso (Ty.pair (Ty.int .i64) (Ty.pair (Ty.slice (Ty.int .i64)) (Ty.pair (Ty.int .i64) (Ty.int .i64)))) EE
theorem KU {w : World} {F0 : List Nat} {G : List Nat} {x : BJ} {cs : List Value} (h : (Il).rd w G x cs) (hG : ∀ k ∈ G, k < w.heap.size ∧ k ∉ F0) :
  ∃ v1 : Value, cs = [.int .i64 x.Entry, v1, .int .i64 x.Fuel, .int .i64 x.Room] ∧ Rd (Ty.int .i64) w F0 v1 x.LD := by
 obtain ⟨_, _, rfl, rfl, ⟨_, _, rfl, ⟨v1, rfl, h0⟩, ⟨_, _, rfl, rfl, rfl⟩⟩⟩ := h
 exact ⟨v1, rfl, ⟨G, h0, hG⟩⟩
abbrev JA (a : Int) : Int := IntKind.i64.wrap ((IntKind.u64.wrap a).tmod 65536)
def VH (m : Ah) (c : BJ) (a b : Int) : Prop := ∃ mx ax x q, DI m = some mx ∧ D8 c.LD = some ax ∧ I7 mx c.Entry ax c.Room = some x ∧ Jx m c.Entry c.LD c.Room = some q ∧
 ((x.1 = none ∧ q.1 = none ∧ x.2 = q.2 ∧ (q.2 != 0) = true) ∨ ∃ S S1 S2 p o, x.1 = some S ∧ q.1 ≠ none ∧ q.2 = 0 ∧ Nb (JA a) S = some S1 ∧ Nb (JA b) S1 = some S2 ∧ Nb (wr (JA a + JA b)) S = some S2 ∧ Js S2 = some p ∧ M4 S2 = some o ∧ ((o.Err == 150) = true → (o.Steps != wr (JA a + JA b)) = false) ∧ CC o o = some true ∧
  decide (JA a < 0) = false ∧ decide (JA b < 0) = false ∧ decide (wr (JA a + JA b) < 0) = false)
open Classical in
noncomputable def BZ (a0 : Ah) (a1 : BJ) (a2 a3 : Int) : Option Bool := if VH a0 a1 a2 a3 then some true else none
theorem WF : El prog 26 4 = true := by kernel_rfl
abbrev Xi : BO prog := ⟨⟨[(26, 0, 0, 1), (26, 1, 1, 1), (26, 2, 2, 1), (26, 3, 3, 1), (29, 0, 0, 1), (29, 1, 1, 1), (29, 2, 2, 1), (29, 3, 3, 1), (32, 0, 0, 1), (32, 1, 1, 1), (32, 2, 2, 1), (32, 3, 3, 1), (32, 4, 4, 1), (32, 5, 5, 1)], [7, 8, 9, 12, 13, 14, 17, 20], [3, 27, 30], [(26, 4), (32, 6)]⟩, by kernel_rfl⟩
theorem RR {w0 w : World} {F0 : List Nat} {K : MK} {gx : Nat} {S S' : MS} {n : Int} {rest : List Ck} (hs : SL w0 F0 w (MX K gx S :: rest)) (h1 : Sl Ag K.v1 S.m.Classes ∈ rest) (h2 : Sl As K.v2 S.m.Funcs ∈ rest) (h3 : Sl Ag K.vhc S.m.Classes ∈ rest) (h0 : decide (n < 0) = false) (H : Nb n S = some S') :
  Calls prog 14 #[jP gx, .int .i64 n] w (AN fun u w_ => (S'.m = S.m ∧ u = .tuple ⟨[.bool S'.over, .int .i64 0]⟩) ∧ SL w0 F0 w_ (MX K gx S' :: rest)) := by
 obtain ⟨F, hst, hF0, hG, hcl⟩ := SL.open_ (ps := [MX K gx S]) hs
 refine (Go_c hst ⟨FO h1 hG, FO h2 hG, FO h3 hG⟩ h0 H).mono ?_
 rintro e w' ⟨v, rfl, hS, hq⟩
 exact ⟨v, rfl, hS, hcl _ _ hq⟩
theorem Pi {w0 w : World} {F0 : List Nat} {K : MK} {gx : Nat} {S : MS} {p : Int × Int × Int} {rest : List Ck} (hs : SL w0 F0 w (MX K gx S :: rest)) (H : Js S = some p) : Calls prog 20 #[jP gx] w (AN fun u w_ => u = .tuple ⟨[.int .i64 p.1, .int .i64 p.2.1, .int .i64 p.2.2]⟩ ∧ SL w0 F0 w_ (MX K gx S :: rest)) := by
 obtain ⟨F, hst, hF0, hG, hcl⟩ := SL.open_ (ps := [MX K gx S]) hs
 refine (VB hst H).mono ?_
 rintro e w' ⟨v, rfl, hS, hq⟩
 exact ⟨v, rfl, hS, hcl _ _ hq⟩
theorem NL {w0 w : World} {F0 : List Nat} {K : MK} {gx : Nat} {S : MS} {o : CJ} {rest : List Ck} (hs : SL w0 F0 w (MX K gx S :: rest)) (H : M4 S = some o) : Calls prog 17 #[jP gx] w (AN fun u w_ => ∃ u0, u = .agg ⟨K9 o u0⟩ ∧ SL w0 F0 w_ (Sl (Ty.int .i64) u0 o.Told :: MX K gx S :: rest)) := by
 obtain ⟨F, hst, hF0, hG, hcl⟩ := SL.open_ (ps := [MX K gx S]) hs
 refine (TD hst H).mono ?_
 rintro e w' ⟨v, rfl, u0, hv, hq⟩
 exact ⟨v, rfl, u0, hv, hcl _ _ hq⟩
def Tq (w : World) (b4 b5 : Ck) (w_ : World) : Prop := ∃ ps, SL w [] w_ ps ∧ b4 ∈ ps ∧ b5 ∈ ps
section
variable {w : World} {v0_1 v0_2 v0_3 v1_1 : Value} {a0 : Ah} {a1 : BJ} {a2 a3 : Int} {r : Bool}
theorem II (hr0_1 : Rd Ag w [] v0_1 a0.Classes) (hr0_2 : Rd As w [] v0_2 a0.Funcs) (hr0_3 : Rd (Ty.slice Ty.u8) w [] v0_3 a0.Cf) (hr1_1 : Rd (Ty.int .i64) w [] v1_1 a1.LD) (H : BZ a0 a1 a2 a3 = some r) :
  Calls prog 5 #[.agg ⟨[.string ⟨⟨a0.Name⟩⟩, v0_1, v0_2, v0_3]⟩, .agg ⟨[.int .i64 a1.Entry, v1_1, .int .i64 a1.Fuel, .int .i64 a1.Room]⟩, .int .i64 a2, .int .i64 a3] w (AN fun u_ w_ => u_ = .bool r ∧ SL w [] w_ []) := by
 letI := Xi
 have s0 : SL w [] w [] := SL.Bf w
 unfold BZ at H
 split at H <;> rename_i hok <;> cases H
 obtain ⟨mx, ax, x, q, hM, hA, hX, hQ, hcase⟩ := hok
 refine C9 func5 ntmps5 fun _ F1 => ?_
 refine Bz F1 s0 rfl rfl rfl fun g4 w1 _ F2 s1 => ?_
 refine Bz F2 s1 rfl rfl rfl fun g5 w2 _ F3 s2 => ?_
 refine zw F3 fun _ F4 => ?_
 have ld4 : ∀ {w_ : World} {m : CL} {dd : Option Tmp} {ty : TypeId} {pos : String} {aft : Array Edge} {gd : Option (Nat × Bool)} {x : Operand}, Tq w (Ae g4 26 [.string ⟨⟨a0.Name⟩⟩, v0_1, v0_2, v0_3]) (Ae g5 29 [.int .i64 a1.Entry, v1_1, .int .i64 a1.Fuel, .int .i64 a1.Room]) w_ → ev m x = some (.pointer (some ⟨g4, 0, none⟩)) → EX prog w_ m ⟨dd, .load 26 x, ty, pos, aft, gd⟩ (.agg ⟨[.string ⟨⟨a0.Name⟩⟩, v0_1, v0_2, v0_3]⟩) w_ := fun hw hx => by
  obtain ⟨ps, h, h4, h5⟩ := hw
  exact Be WF hx (h.E0 (ds := [.string ⟨⟨a0.Name⟩⟩, v0_1, v0_2, v0_3]) h4 (o := 0) (fun j u hu => by rw [Nat.zero_add]; exact hu)) rfl
 have ld5 : ∀ {w_ : World} {o : Nat} {u : Value}, Tq w (Ae g4 26 [.string ⟨⟨a0.Name⟩⟩, v0_1, v0_2, v0_3]) (Ae g5 29 [.int .i64 a1.Entry, v1_1, .int .i64 a1.Fuel, .int .i64 a1.Room]) w_ → [.int .i64 a1.Entry, v1_1, .int .i64 a1.Fuel, .int .i64 a1.Room][o]? = some u → w_.cell? ⟨g5, o, none⟩ = some u := fun hw hu => by
  obtain ⟨ps, h, h4, h5⟩ := hw
  exact h.Aq h5 hu
 refine BH (Tq w (Ae g4 26 [.string ⟨⟨a0.Name⟩⟩, v0_1, v0_2, v0_3]) (Ae g5 29 [.int .i64 a1.Entry, v1_1, .int .i64 a1.Fuel, .int .i64 a1.Room])) [] Cn (Ce [0, 2, 3, 4, 5, 7, 8] F4 (Bl rfl) ⟨_, s2.drew, m1, m0⟩ (QI.op rfl (fun w hw => ld4 hw rfl) rfl <| QI.ev 1 rfl <| QI.op rfl (fun w hw => Ar D1 rfl (ld5 hw (o := 0) rfl)) rfl <| QI.ev 1 rfl <| QI.op rfl (fun w hw => Ar RU rfl (ld5 hw (o := 1) rfl)) rfl <| QI.ev 1 rfl <| QI.op rfl (fun w hw => Ar D1 rfl (ld5 hw (o := 3) rfl)) rfl <| QI.nil) fun _ F5 => ?_)
 refine BN 1 rfl (AU F5 (Fz (hr0_1.Az s2.drew) (hr0_2.Az s2.drew) (hr0_3.Az s2.drew) hM) fun v w3 _ hS F6 => A8 ⟨fun _ => ?_, ?_⟩)
 ·obtain ⟨u0, u1, u2, _, hq⟩ := hS
  exact ⟨_, s2.drew.add hq, m4, m3⟩
 obtain ⟨u0, u1, u2, rfl, hq⟩ := hS
 have s3 := s2.drew.add hq
 clear hq
 refine BN 6 rfl (AU F6 (Ff (hr1_1.Az s3) hA) fun v w4 _ hS F7 => A8 ⟨fun _ => ?_, ?_⟩)
 ·obtain ⟨u3, _, hq⟩ := hS
  exact ⟨_, s3.add hq, m5, m4⟩
 obtain ⟨u3, rfl, hq⟩ := hS
 have s4 := s3.add hq
 clear hq
 refine BN 9 rfl (AU F7 (NM (SL.FX s4 m1) (SL.FX s4 m2) (SL.FX s4 m3) (SL.FX s4 m0) hX) fun v w5 _ hS F8 => A8 ⟨fun _ => ?_, ?_⟩)
 ·rcases hS with ⟨_, _, hq⟩ | ⟨S, K, gx, _, _, _, hq⟩
  ·exact ⟨_, s4.add hq, m5, m4⟩
  ·exact ⟨_, s4.add hq, m9, m8⟩
 rcases hcase with ⟨hx1, hq1, he, hne⟩ | ⟨S, S1, S2, p, o, hx1, hq1, hq2, hg1, hg2, hg3, hwh, hou, herr, hso, hn1, hn2, hn3⟩
 ·obtain ⟨x1, x2⟩ := x
  obtain ⟨q1, q2⟩ := q
  dsimp only at hx1 hq1 he hne hS
  subst hx1 hq1 he
  rcases hS with ⟨_, rfl, hq⟩ | ⟨S, K, gx, hS, _⟩
  rotate_left
  ·cases hS
  have s5 := SL.drop (SL.drop (SL.drop (SL.drop (s4.add hq))))
  clear hq s4 s3 s2 s1
  refine Ce [10, 11, 12] F8 (Bl rfl) ⟨_, s5, m1, m0⟩ (QI.ev 3 rfl <| QI.nil) fun _ F9 => ?_
  refine Fw 13 rfl F9 ⟨_, s5, m1, m0⟩ fun _ F10 => ?_
  refine Fw 14 rfl F10 ⟨_, s5, m1, m0⟩ fun _ F11 => BE ?_
  refine ze F11 fun _ F12 => ?_
  refine BH (Tq w (Ae g4 26 [.string ⟨⟨a0.Name⟩⟩, v0_1, v0_2, v0_3]) (Ae g5 29 [.int .i64 a1.Entry, v1_1, .int .i64 a1.Fuel, .int .i64 a1.Room])) [] Cn (Ce [0, 2, 3, 4, 5, 7, 8] F12 (Bl rfl) ⟨_, s5.drew, m1, m0⟩ (QI.op rfl (fun w hw => ld4 hw rfl) rfl <| QI.ev 1 rfl <| QI.op rfl (fun w hw => Ar D1 rfl (ld5 hw (o := 0) rfl)) rfl <| QI.ev 1 rfl <| QI.op rfl (fun w hw => Ar RU rfl (ld5 hw (o := 1) rfl)) rfl <| QI.ev 1 rfl <| QI.op rfl (fun w hw => Ar D1 rfl (ld5 hw (o := 3) rfl)) rfl <| QI.nil) fun _ F5 => ?_)
  refine BN 1 rfl (AU F5 (Fz (hr0_1.Az s5.drew) (hr0_2.Az s5.drew) (hr0_3.Az s5.drew) hM) fun v w3 _ hS F6 => A8 ⟨fun _ => ?_, ?_⟩)
  ·obtain ⟨u0, u1, u2, _, hq⟩ := hS
   exact ⟨_, s5.drew.add hq, m4, m3⟩
  obtain ⟨u0, u1, u2, rfl, hq⟩ := hS
  have t3 := s5.drew.add hq
  clear hq
  refine BN 6 rfl (AU F6 (Ff (hr1_1.Az t3) hA) fun v w4 _ hS F7 => A8 ⟨fun _ => ?_, ?_⟩)
  ·obtain ⟨u3, _, hq⟩ := hS
   exact ⟨_, t3.add hq, m5, m4⟩
  obtain ⟨u3, rfl, hq⟩ := hS
  have t4 := t3.add hq
  clear hq
  refine BN 9 rfl (AU F7 (NM (SL.FX t4 m1) (SL.FX t4 m2) (SL.FX t4 m3) (SL.FX t4 m0) hX) fun v w5 _ hS F8 => A8 ⟨fun _ => ?_, ?_⟩)
  ·rcases hS with ⟨_, _, hq⟩ | ⟨S, K, gx, _, _, _, hq⟩
   ·exact ⟨_, t4.add hq, m5, m4⟩
   ·exact ⟨_, t4.add hq, m9, m8⟩
  rcases hS with ⟨_, rfl, hq⟩ | ⟨S, K, gx, hS, _⟩
  rotate_left
  ·cases hS
  have s6 := SL.drop (SL.drop (SL.drop (SL.drop (t4.add hq))))
  clear hq t4 t3 s5
  refine Ce [10, 11, 12] F8 (Bl rfl) ⟨_, s6, m1, m0⟩ (QI.ev 3 rfl <| QI.nil) fun _ F9 => ?_
  refine Fw 13 rfl F9 ⟨_, s6, m1, m0⟩ fun _ F10 => ?_
  refine Fw 14 rfl F10 ⟨_, s6, m1, m0⟩ fun _ F11 => BE ?_
  refine ze F11 fun _ F12 => ?_
  refine AE F12 s6 m1 fun _ F13 => ?_
  refine AE F13 s6 m0 fun _ F14 => ?_
  refine AE F14 s6 m0 fun _ F15 => ?_
  refine AE F15 s6 m0 fun _ F16 => ?_
  refine AU F16 (PN (hr0_1.Az s6) (hr0_2.Az s6) (hr0_3.Az s6) (hr1_1.Az s6) hQ) fun v w6 _ hS F17 => ?_
  rcases hS with ⟨_, rfl, hq⟩ | ⟨S, e, K, vc, cs, hS, _⟩
  rotate_left
  ·cases hS
  have s7 := s6.add hq
  have hxx : (x2 != x2) = false := by simp
  have hxn : (true != (x2 != 0)) = false := by rw [hne]; rfl
  refine IQ 14 F17 fun _ F18 => ?_
  refine IQ 5 (F18.kf (d := 66) hxx) fun _ F19 => ?_
  refine IQ 1 (F19.kf (d := 71) hxx) fun _ F20 => ?_
  refine Bu F20 rfl rfl rfl (Jf rfl rfl underlying39) rfl rfl fun _ F21 => ?_
  refine IQ 2 F21 fun _ F22 => ?_
  refine Bu F22 rfl rfl rfl (MQ rfl rfl underlying4) rfl rfl fun _ F23 => ?_
  refine IQ 2 F23 fun _ F24 => ?_
  refine IQ 1 (F24.kf (d := 78) hxn) fun _ F25 => ?_
  refine Bu F25 rfl rfl rfl (Jf rfl rfl underlying39) rfl rfl fun _ F26 => ?_
  refine IQ 2 F26 fun _ F27 => ?_
  refine Bu F27 rfl rfl rfl (MQ rfl rfl underlying4) rfl rfl fun _ F28 => ?_
  refine zw F28 fun _ F29 => ?_
  refine zf F29 hxn fun _ F30 => ?_
  refine zx F30 (Jf rfl rfl underlying39) fun _ F31 => ?_
  refine zt F31 rfl fun _ F32 => ?_
  exact rt F32 ⟨rfl, SL.none_ s7⟩
 ·rcases hS with ⟨hS, _⟩ | ⟨T, Kx, gx, hS, hx2, rfl, hq⟩
  ·rw [hx1] at hS; cases hS
  obtain rfl : S = T := by rw [hx1] at hS; cases hS; rfl
  have s5 := SL.drop (SL.f4 (SL.drop (SL.f4 (SL.drop (SL.f4 (SL.drop (SL.f4 (s4.add hq))))))))
  clear hq s4 s3 s2 s1
  refine Ce [10, 11, 12] F8 (Bl rfl) ⟨_, s5, m5, m4⟩ (QI.ev 3 rfl <| QI.nil) fun _ F9 => ?_
  refine Fw 13 rfl F9 ⟨_, s5, m5, m4⟩ fun _ F10 => ?_
  refine Fw 14 rfl F10 ⟨_, s5, m5, m4⟩ fun _ F11 => BE ?_
  refine ze F11 fun _ F12 => ?_
  refine BH (Tq w (Ae g4 26 [.string ⟨⟨a0.Name⟩⟩, v0_1, v0_2, v0_3]) (Ae g5 29 [.int .i64 a1.Entry, v1_1, .int .i64 a1.Fuel, .int .i64 a1.Room])) [] Cn (Ce [0, 2, 3, 4, 5, 7, 8] F12 (Bl rfl) ⟨_, s5.drew, m5, m4⟩ (QI.op rfl (fun w hw => ld4 hw rfl) rfl <| QI.ev 1 rfl <| QI.op rfl (fun w hw => Ar D1 rfl (ld5 hw (o := 0) rfl)) rfl <| QI.ev 1 rfl <| QI.op rfl (fun w hw => Ar RU rfl (ld5 hw (o := 1) rfl)) rfl <| QI.ev 1 rfl <| QI.op rfl (fun w hw => Ar D1 rfl (ld5 hw (o := 3) rfl)) rfl <| QI.nil) fun _ F5 => ?_)
  refine BN 1 rfl (AU F5 (Fz (hr0_1.Az s5.drew) (hr0_2.Az s5.drew) (hr0_3.Az s5.drew) hM) fun v w3 _ hS F6 => A8 ⟨fun _ => ?_, ?_⟩)
  ·obtain ⟨u0, u1, u2, _, hq⟩ := hS
   exact ⟨_, s5.drew.add hq, m8, m7⟩
  obtain ⟨u0, u1, u2, rfl, hq⟩ := hS
  have t3 := s5.drew.add hq
  clear hq
  refine BN 6 rfl (AU F6 (Ff (hr1_1.Az t3) hA) fun v w4 _ hS F7 => A8 ⟨fun _ => ?_, ?_⟩)
  ·obtain ⟨u3, _, hq⟩ := hS
   exact ⟨_, t3.add hq, m9, m8⟩
  obtain ⟨u3, rfl, hq⟩ := hS
  have t4 := t3.add hq
  clear hq
  refine BN 9 rfl (AU F7 (NM (SL.FX t4 m1) (SL.FX t4 m2) (SL.FX t4 m3) (SL.FX t4 m0) hX) fun v w5 _ hS F8 => A8 ⟨fun _ => ?_, ?_⟩)
  ·rcases hS with ⟨_, _, hq⟩ | ⟨S, K, gx, _, _, _, hq⟩
   ·exact ⟨_, t4.add hq, m9, m8⟩
   ·exact ⟨_, t4.add hq, (.tail _ (.tail _ (.tail _ (.tail _ (m9))))), (.tail _ (.tail _ (.tail _ (m9))))⟩
  rcases hS with ⟨hS, _⟩ | ⟨T, Ky, gy, hS, hy2, rfl, hq⟩
  ·rw [hx1] at hS; cases hS
  obtain rfl : S = T := by rw [hx1] at hS; cases hS; rfl
  have s6 := SL.drop (SL.f4 (SL.drop (SL.f4 (SL.drop (SL.f4 (SL.drop (SL.f4 (t4.add hq))))))))
  clear hq t4 t3 s5
  refine Ce [10, 11, 12] F8 (Bl rfl) ⟨_, s6, m9, m8⟩ (QI.ev 3 rfl <| QI.nil) fun _ F9 => ?_
  refine Fw 13 rfl F9 ⟨_, s6, m9, m8⟩ fun _ F10 => ?_
  refine Fw 14 rfl F10 ⟨_, s6, m9, m8⟩ fun _ F11 => BE ?_
  refine ze F11 fun _ F12 => ?_
  refine AE F12 s6 m9 fun _ F13 => ?_
  refine AE F13 s6 m8 fun _ F14 => ?_
  refine AE F14 s6 m8 fun _ F15 => ?_
  refine AE F15 s6 m8 fun _ F16 => ?_
  refine AU F16 (PN (hr0_1.Az s6) (hr0_2.Az s6) (hr0_3.Az s6) (hr1_1.Az s6) hQ) fun v w6 _ hS F17 => ?_
  rcases hS with ⟨hS, _⟩ | ⟨T, e, Kr, vc, cs, hS, rfl, _, _, _, _, hq⟩
  ·exact absurd hS hq1
  have s7 := SL.drop (SL.drop (SL.drop (SL.drop (SL.drop (s6.add hq)))))
  clear hq s6
  refine zw F17 fun _ F18 => ?_
  refine Bu F18 rfl rfl rfl (J7 rfl rfl underlying39) rfl rfl fun _ F19 => ?_
  refine zw F19 fun _ F20 => ?_
  refine Bu F20 rfl rfl rfl (MQ rfl rfl underlying4) rfl rfl fun _ F21 => ?_
  refine zw F21 fun _ F22 => ?_
  refine Bu F22 rfl rfl rfl (J7 rfl rfl underlying39) rfl rfl fun _ F23 => ?_
  refine zw F23 fun _ F24 => ?_
  refine Bu F24 rfl rfl rfl (MQ rfl rfl underlying4) rfl rfl fun _ F25 => ?_
  refine zw F25 fun _ F26 => ?_
  refine zf F26 rfl fun _ F27 => ?_
  refine zx F27 (J7 rfl rfl underlying39) fun _ F28 => ?_
  refine zf F28 rfl fun _ F29 => ?_
  refine zx F29 (C7 rfl underlying3 underlying55) fun _ F30 => ?_
  refine zx F30 (P4 rfl rfl rfl) fun _ F31 => ?_
  refine zx F31 (C7 rfl underlying55 underlying3) fun _ F32 => ?_
  refine zx F32 (C7 rfl underlying3 underlying55) fun _ F33 => ?_
  refine zx F33 (P4 rfl rfl rfl) fun _ F34 => ?_
  refine zx F34 (C7 rfl underlying55 underlying3) fun _ F35 => ?_
  have s8 := SL.f4 s7
  refine AU F35 (RR s8 m4 m5 m6 hn1 hg1) fun v w7 _ hS F36 => ?_
  obtain ⟨⟨hm1, rfl⟩, s9⟩ := hS
  refine zw F36 fun _ F37 => ?_
  refine AU F37 (RR s9 (by rw [hm1]; exact m4) (by rw [hm1]; exact m5) (by rw [hm1]; exact m6) hn2 hg2) fun v w8 _ hS F38 => ?_
  obtain ⟨⟨hm2, rfl⟩, s10⟩ := hS
  refine zw F38 fun _ F39 => ?_
  refine AU F39 (RR s10.f1 m1 m2 m3 hn3 hg3) fun v w9 _ hS F40 => ?_
  obtain ⟨⟨hm3, rfl⟩, s11⟩ := hS
  refine zw F40 fun _ F41 => ?_
  refine AU F41 (Pi s11.f1 hwh) fun v w10 _ hS F42 => ?_
  obtain ⟨rfl, s12⟩ := hS
  refine zw F42 fun _ F43 => ?_
  refine AU F43 (Pi s12.f1 hwh) fun v w11 _ hS F44 => ?_
  obtain ⟨rfl, s13⟩ := hS
  refine zw F44 fun _ F45 => ?_
  refine AU F45 (NL s13.f1 hou) fun v w12 _ hS F46 => ?_
  obtain ⟨uo, rfl, s14⟩ := hS
  refine An F46 s14 Ib rfl rfl fun g25 w13 _ F47 s15 => ?_
  refine A9 (ds := K9 o uo) F47 s15 rfl rfl Pu (Af rfl (Af rfl (Af rfl (Af (Aj (s15.form m1)) (Af rfl (Af rfl AM)))))) rfl fun w14 _ F48 s16 => ?_
  refine zw F48 fun _ F49 => ?_
  have hso2 : (S2.over == S2.over) = true := by simp
  have hp1 : (p.1 == p.1) = true := by simp
  have hp2 : (p.2.1 == p.2.1) = true := by simp
  have hp3 : (p.2.2 == p.2.2) = true := by simp
  have ld25 : ∀ {w_ : World}, (∃ ps, SL w [] w_ ps ∧ Ae g25 32 (K9 o uo) ∈ ps) → Cells w_ ⟨g25, 0, none⟩ (K9 o uo) := fun hw => by
   obtain ⟨ps, h, h1⟩ := hw
   exact h.E0 h1 (o := 0) (fun j u hu => by rw [Nat.zero_add]; exact hu)
  refine Sc 2 F49 s16 m0 fun _ F50 => ?_
  by_cases h150 : (o.Err == 150) = true
  ·refine zw (F50.kt (d := 129) h150) fun _ F51 => ?_
   refine Bu F51 rfl rfl rfl (Ar D1 rfl (s16.Aq m0 (o := 4) rfl)) rfl rfl fun _ F52 => ?_
   refine zw F52 fun _ F53 => ?_
   refine zf F53 (herr h150) fun _ F54 => ?_
   refine BH (fun w_ => ∃ ps, SL w [] w_ ps ∧ Ae g25 32 (K9 o uo) ∈ ps) [] Cn (Ce [0, 1, 2, 3, 4, 5] F54 (Bl rfl) ⟨_, s16.drew, m0⟩ (QI.ev 2 rfl <| QI.op rfl (fun w hw => SS rfl rfl underlying4) rfl <| QI.ev 1 rfl <| QI.kn (dj := 140) rfl hso2 <| QI.gop rfl (fun w hw => Be Nl rfl (ld25 hw) rfl) rfl rfl rfl rfl rfl <| QI.ev 1 rfl <| QI.nil) fun _ F55 => ?_)
   refine BN 6 rfl (Oc F55 (NL (SL.f3 s16.drew) hou) fun v w15 _ hS F56 => A8 ⟨fun _ => ?_, ?_⟩)
   ·obtain ⟨u, _, h⟩ := hS
    exact ⟨_, h, m2⟩
   obtain ⟨uo', rfl, s17⟩ := hS
   refine BN 7 rfl (Oc F56 (Ga (SL.FX s17 m3) (SL.FX s17 m0) hso) fun v w16 _ hS F57 => A8 ⟨fun _ => ⟨_, s17.add hS.2, m2⟩, ?_⟩)
   obtain ⟨rfl, hq⟩ := hS
   have s18 := s17.add hq
   refine Ce [8, 9, 10, 11, 12, 13, 14, 15, 16, 17, 18, 19, 20, 21, 22, 23] F57 (Bl rfl) ⟨_, s18, m2⟩ (QI.ev 7 rfl <| QI.kn (dj := 151) rfl hp1 <| QI.ev 5 rfl <| QI.kn (dj := 156) rfl hp2 <| QI.ev 4 rfl <| QI.nil) fun _ F58 => ?_
   refine Fw 24 rfl F58 ⟨_, s18, m2⟩ fun _ F59 => BE ?_
   refine ze F59 fun _ F60 => ?_
   exact rt (F60.kt (d := 8) hp3) ⟨rfl, SL.none_ s18⟩
  ·refine zw (F50.kf (d := 129) (Bool.eq_false_iff.2 h150)) fun _ F53 => ?_
   refine zf F53 rfl fun _ F54 => ?_
   refine BH (fun w_ => ∃ ps, SL w [] w_ ps ∧ Ae g25 32 (K9 o uo) ∈ ps) [] Cn (Ce [0, 1, 2, 3, 4, 5] F54 (Bl rfl) ⟨_, s16.drew, m0⟩ (QI.ev 2 rfl <| QI.op rfl (fun w hw => SS rfl rfl underlying4) rfl <| QI.ev 1 rfl <| QI.kn (dj := 140) rfl hso2 <| QI.gop rfl (fun w hw => Be Nl rfl (ld25 hw) rfl) rfl rfl rfl rfl rfl <| QI.ev 1 rfl <| QI.nil) fun _ F55 => ?_)
   refine BN 6 rfl (Oc F55 (NL (SL.f3 s16.drew) hou) fun v w15 _ hS F56 => A8 ⟨fun _ => ?_, ?_⟩)
   ·obtain ⟨u, _, h⟩ := hS
    exact ⟨_, h, m2⟩
   obtain ⟨uo', rfl, s17⟩ := hS
   refine BN 7 rfl (Oc F56 (Ga (SL.FX s17 m3) (SL.FX s17 m0) hso) fun v w16 _ hS F57 => A8 ⟨fun _ => ⟨_, s17.add hS.2, m2⟩, ?_⟩)
   obtain ⟨rfl, hq⟩ := hS
   have s18 := s17.add hq
   refine Ce [8, 9, 10, 11, 12, 13, 14, 15, 16, 17, 18, 19, 20, 21, 22, 23] F57 (Bl rfl) ⟨_, s18, m2⟩ (QI.ev 7 rfl <| QI.kn (dj := 151) rfl hp1 <| QI.ev 5 rfl <| QI.kn (dj := 156) rfl hp2 <| QI.ev 4 rfl <| QI.nil) fun _ F58 => ?_
   refine Fw 24 rfl F58 ⟨_, s18, m2⟩ fun _ F59 => BE ?_
   refine ze F59 fun _ F60 => ?_
   exact rt (F60.kt (d := 8) hp3) ⟨rfl, SL.none_ s18⟩
end
end Go.Proofs.YtpnacdckamiedaaGreat
namespace Go.Proofs.YtpnacdckamiedaaGreat
open Go Go.RowKit Go.Pv Go.Proofs.Tryz
def NQ (c : Ad) : Prop := c.Fields.length ≤ Dl
structure EZ (m : Ah) : Prop where
 cl : m.Classes.length ≤ Dl
 fl : m.Funcs.length ≤ Dl
 tl : m.Cf.length ≤ Dl
 c : ∀ x ∈ m.Classes, NQ x
 f : ∀ x ∈ m.Funcs, Ph x
 t : ∀ x ∈ m.Cf, x.length ≤ Dl
theorem OP (l : List Av) (h : l.length ≤ Dl) : Bi l = some l := by
 unfold Bi
 rw [Cg (by simp only [Dl] at h; simp; omega)]; simp
theorem Qo (l : List Ad) (hl : l.length ≤ Dl) (h : ∀ x ∈ l, NQ x) : D6 l = some l := by
 unfold D6
 rw [EB l id (fun i hi acc ha => by
  unfold Ci
  simp only [Dl] at hl
  dsimp only
  rw [Ab (by simpa using hi), AV hi, YE, OP _ (h _ (YI hi)), YE, Cg (by simp; omega), YE, Ef (by omega)]
  rfl) (fun acc => by unfold Ci; simp)]
 simp
theorem RB (m : Ah) (h : EZ m) : DI m = some m := by
 have hf := h.fl
 have ht := h.tl
 simp only [Dl] at hf ht
 unfold DI
 rw [Qo _ h.cl h.c, YE, EB m.Funcs id (fun i hi acc ha => by
  unfold Cw
  dsimp only
  rw [Ab (by simpa using hi), AV hi, YE]
  rw [show (⟨m.Funcs[i].Name, (⟨m.Funcs[i].Sig.Ai, m.Funcs[i].Sig.Result⟩ : Am), m.Funcs[i].Ak, m.Funcs[i].Code⟩ : A3) = m.Funcs[i] from rfl, U8 _ (h.f _ (YI hi)), YE, Cg (by simp; omega), YE, Ef (by omega)]
  rfl) (fun acc => by unfold Cw; simp), YE, EB m.Cf id (fun i hi acc ha => by
  unfold Cx
  dsimp only
  rw [Ab (by simpa using hi), AV hi, YE, Ss _ (h.t _ (YI hi)), YE, Cg (by simp; omega), YE, Ef (by omega)]
  rfl) (fun acc => by unfold Cx; simp), YE]
 simp
theorem EZ.tab {m : Ah} (h : EZ m) : Eh m.Classes := ⟨h.cl, fun x hx => h.c x hx⟩
def Gt (m : Ah) (fn : Int) : AD := ⟨m.Classes, m.Funcs.map (·.Sig), fn⟩
theorem Vt (m : Ah) (h : EZ m) (fn : Int) : I4 m fn = some (if 0 ≤ fn ∧ fn < m.Funcs.length then (Gt m fn, true) else (⟨[], [], 0⟩, false)) := by
 have hcl := h.cl
 have hfl := h.fl
 simp only [Dl] at hcl hfl
 unfold I4
 by_cases h0 : fn < 0
 ·rw [Ab (by rw [Aa]; exact h0), Ac (by omega)]
 ·rw [Ac (by rw [Aa]; exact h0)]
  by_cases h1 : fn ≥ (m.Funcs.length : Int)
  ·rw [Ab (by rw [Aa]; exact h1), Ac (by omega)]
  ·rw [Ac (by rw [Aa]; exact h1), Ab (by omega), EB m.Classes id (fun i hi acc ha => by
    unfold FB
    dsimp only
    rw [Ab (by rw [Aa]; omega), AV hi, YE, OP _ (h.c _ (YI hi)), YE, Cg (by simp; omega), YE, Ef (by omega)]
    rfl) (fun acc => by unfold FB; simp), YE, EB m.Funcs (·.Sig) (fun i hi acc ha => by
    unfold Fy
    dsimp only
    rw [Ab (by rw [Aa]; omega), AV hi, YE, Td _ (h.f _ (YI hi)).1, YE, Cg (by simp; omega), YE, Ef (by omega)]) (fun acc => by unfold Fy; simp), YE, List.map_id]
   rfl
theorem Og (m : Ah) (h : EZ m) : DO m = some (Gt m 0) := by
 have hfl := h.fl
 simp only [Dl] at hfl
 unfold DO
 rw [EB m.Funcs (·.Sig) (fun i hi acc ha => by
  unfold Db
  dsimp only
  rw [Ab (by rw [Aa]; omega), AV hi, YE, Cg (by simp; omega), YE, Ef (by omega)]) (fun acc => by unfold Db; simp), YE]
 rfl
def bare (m : Ah) : Ah := ⟨m.Name, m.Classes, m.Funcs, []⟩
theorem RF (m : Ah) (h : EZ m) : E1 m = some (bare m) := by
 have hcl := h.cl
 have hfl := h.fl
 simp only [Dl] at hcl hfl
 unfold E1
 rw [EB m.Classes id (fun i hi acc ha => by
  unfold D9
  dsimp only
  have := h.c _ (YI hi)
  simp only [NQ, Dl] at this
  rw [Ab (by rw [Aa]; omega), AV hi, YE, Cg (by simp; omega), YE, Cg (by simp; omega), YE, Ef (by omega)]
  rfl) (fun acc => by unfold D9; simp), YE, EB m.Funcs id (fun i hi acc ha => by
  unfold DC
  dsimp only
  have := h.f _ (YI hi)
  simp only [Ph, Dl] at this
  rw [Ab (by rw [Aa]; omega), AV hi, YE, Cg (by simp; omega), YE, Cg (by simp; omega), YE, Cg (by simp; omega), YE, Ef (by omega)]
  rfl) (fun acc => by unfold DC; simp), YE, List.map_id, List.map_id]
 rfl
theorem Q2 (l : List Ad) (room : Int) (h : Eh l) (hc : (FY l).2 = 0) (h0 : 0 ≤ room) (h1 : room ≤ 4096) : Iw l room = some (some ⟨l, room, 0, 0, []⟩, 0) := by
 have hl := h.1
 simp only [Dl] at hl
 unfold Iw
 rw [Ac (by rw [Aa]; omega), Ac (by rw [Aa]; omega), Oe _ h, YE, hc, Ac (by simp), EB l id (fun i hi acc ha => by
  unfold Gj
  dsimp only
  rw [Ab (by rw [Aa]; omega), AV hi, YE, OP _ (h.2 _ (YI hi)), YE, Cg (by simp; omega), YE, Ef (by omega)]
  rfl) (fun acc => by unfold Gj; simp), YE, List.map_id]
theorem RQ (l : List Int) (h : l.length ≤ Dl) : D8 l = some l := by
 unfold D8
 rw [Cg (by simp only [Dl] at h; simp; omega)]; simp
end Go.Proofs.YtpnacdckamiedaaGreat
namespace Go.Proofs.YtpnacdckamiedaaGreat
open Go Go.RowKit Go.Pv Go.Proofs.Tryz
def MB (l : List Ad) (s : Am) : Bool := s.Ai.all (st l) && (decide (s.Result.toNat = 0) || st l s.Result)
structure Nm (e : AD) : Prop where
 ok : (FY e.Classes).2 = 0
 good : Good e.Classes
 few : e.AO.length ≤ 64
 sigs : ∀ s ∈ e.AO, s.Ai.length ≤ 8 ∧ MB e.Classes s = true
 fn : 0 ≤ e.Fn ∧ e.Fn < e.AO.length
theorem Q9 (t : UInt8) : ((t.toNat : Int) != 0) = !decide (t.toNat = 0) := by
 rw [show ((t.toNat : Int) != 0) = !((t.toNat : Int) == 0) from rfl, show ((t.toNat : Int) == 0) = decide (t.toNat = 0) from Bj _ 0]
theorem UA (e : AD) (ps : List UInt8) (h : ps.length ≤ 8) : Bd ps e = some (ps.any fun t => !st e.Classes t) := by
 unfold Bd
 obtain ⟨r, h1, h2, _⟩ := Je ps (fun t => !st e.Classes t) (body := AL ps e) (fun i hi => by
  unfold AL
  rw [Ab (by rw [Aa]; omega), AV hi, YE, Rl, YE, Ef (by omega)]) (by
  unfold AL
  rw [Ac (by rw [Aa]; omega)])
 have h1' : B6 ps e = some r := h1
 rw [show (⟨e.Classes, e.AO, e.Fn⟩ : AD) = e from rfl, h1', YE, h2]
theorem Hr {α R : Type} (l : List α) {body : Int → Option (Int ⊕ R)} {bad : α → Bool} {r0 : R} {Pb : R → Prop} (hs : ∀ i (h : i < l.length), if bad l[i] = true then ∃ r, body (i : Int) = some (.inr r) ∧ Pb r else body (i : Int) = some (.inl ((i + 1 : Nat) : Int))) (he : body (l.length : Int) = some (.inr r0)) :
  ∃ r, Ay body 0 = some r ∧ ((∃ x ∈ l, bad x = true) → Pb r) ∧ ((∀ x ∈ l, bad x = false) → r = r0) := by
 have key : ∀ k i, i + k = l.length → (∀ x ∈ l.take i, bad x = false) → ∃ r, Ay body (i : Int) = some r ∧ ((∃ x ∈ l, bad x = true) → Pb r) ∧ ((∀ x ∈ l, bad x = false) → r = r0) := by
  intro k
  induction k with
  | zero =>
   intro i hi hb
   obtain rfl : i = l.length := by omega
   rw [List.take_length] at hb
   refine ⟨r0, AY he, fun ⟨x, hx, h⟩ => ?_, fun _ => rfl⟩
   rw [hb x hx] at h; cases h
  | succ k ih =>
   intro i hi hb
   have h1 := hs i (by omega)
   by_cases hx : bad (l[i]'(by omega)) = true
   ·rw [Ab hx] at h1
    obtain ⟨r, h2, h3⟩ := h1
    refine ⟨r, AY h2, fun _ => h3, fun ha => ?_⟩
    rw [ha _ (YI (by omega))] at hx; cases hx
   ·rw [Ac hx] at h1
    obtain ⟨r, h2, h3⟩ := ih (i + 1) (by omega) (fun x hx' => by
     rw [List.take_add_one, List.getElem?_eq_getElem (by omega)] at hx'
     rcases List.mem_append.1 hx' with h | h
     ·exact hb x h
     ·simp only [Option.toList_some, YH] at h
      rw [h]; simpa using hx)
    exact ⟨r, by rw [CN h1]; exact h2, h3⟩
 exact key l.length 0 (by omega) (by simp)
def Dq (l : List Ad) (s : Am) : Bool := decide (8 < s.Ai.length) || !MB l s
theorem V3 (l : List Ad) (ps : List UInt8) : (ps.any fun t => !st l t) = !(ps.all (st l)) := by
 rw [Bool.eq_iff_iff, List.any_eq_true, Bool.not_eq_true', List.all_eq_false]
 simp
theorem Ui (e : AD) (h64 : e.AO.length ≤ 64) : ∃ r, Ay (D3 e) 0 = some r ∧ ((∃ s ∈ e.AO, Dq e.Classes s = true) → ∃ x, r = .inl x ∧ x ≠ 0) ∧ ((∀ s ∈ e.AO, Dq e.Classes s = false) → r = .inr ()) := by
 refine Hr e.AO (bad := Dq e.Classes) (body := D3 e) (Pb := fun r : Int ⊕ Unit => ∃ x, r = .inl x ∧ x ≠ 0) (fun i hi => ?_) (by unfold D3; rw [Ac (by rw [Aa]; omega)])
 have hb : D3 e (i : Int) = if Dq e.Classes e.AO[i] = true then some (.inr (.inl (if 8 < e.AO[i].Ai.length then 4 else 22))) else some (.inl ((i + 1 : Nat) : Int)) := by
  unfold D3 Dq
  rw [Ab (by rw [Aa]; omega), AV hi, YE]
  by_cases h8 : 8 < e.AO[i].Ai.length
  ·rw [Ab (by rw [Aa]; omega)]; simp [h8]
  ·rw [Ac (by rw [Aa]; omega), UA _ _ (by omega), YE, V3, Rl, Q9]
   have hd : decide (8 < e.AO[i].Ai.length) = false := by simpa using h8
   rw [hd, Ac h8, Ef (by omega)]
   unfold MB
   rcases e.AO[i].Ai.all (st e.Classes) with _ | _
   ·simp
   ·rcases st e.Classes e.AO[i].Result with _ | _ <;> by_cases h0 : e.AO[i].Result.toNat = 0 <;> simp [h0]
 split
 ·rename_i hx
  rw [Ab hx] at hb
  refine ⟨_, hb, _, rfl, ?_⟩
  split <;> decide
 ·rename_i hx
  rw [Ac hx] at hb
  exact hb
theorem V9 (l : List Ad) (ps : List UInt8) (h8 : ps.length ≤ 8) (ha : ps.all (st l) = true) : ∃ f, GF l ps 16 = some (f, 0) := by
 unfold GF HQ
 rw [Ac (by decide), Ac (by decide), YE]
 dsimp only
 rw [Ac (by decide), Ac (by rw [Aa]; omega), Ac (by rw [Aa]; omega)]
 have key : ∀ k i (v : Vector UInt8 24), i + k = ps.length → ∃ v', Ay (D5 l ps) (v, (i : Int)) = some (.inr v') := by
  intro k
  induction k with
  | zero =>
   intro i v hi
   refine ⟨v, AY ?_⟩
   unfold D5
   rw [Ac (by rw [Aa]; dsimp only; omega)]
  | succ k ih =>
   intro i v hi
   have hs : st l (ps[i]'(by omega)) = true := (List.all_eq_true.1 ha) _ (YI _)
   have hs' := hs
   unfold st at hs'
   rw [YL, YL, B9, B9] at hs'
   obtain ⟨v', h⟩ := ih (i + 1) (NS v (i : Int) (ps[i]'(by omega))) (by omega)
   refine ⟨v', ?_⟩
   rw [CN (s' := (NS v (i : Int) (ps[i]'(by omega)), ((i + 1 : Nat) : Int)))]
   ·exact h
   ·unfold D5
    dsimp only
    rw [Ab (by rw [Aa]; omega), AV (by omega), YE, O7, YE, hs'.1, Ac (by simp)]
    rw [Ac (by rw [show ((ps[i].toNat : Int) == 0) = decide (ps[i].toNat = 0) from Bj _ 0, Aa]; exact hs'.2.1), Ac (by rw [show ((ps[i].toNat : Int) == 3) = decide (ps[i].toNat = 3) from Bj _ 3, Aa]; exact hs'.2.2)]
    rw [AV (by simp; omega), YE, Ef (by omega)]
 obtain ⟨v', h⟩ := key ps.length 0 (Vector.replicate 24 0) (by omega)
 rw [show ((0 : Nat) : Int) = 0 from rfl] at h
 rw [h, YE]
 exact ⟨_, rfl⟩
theorem Pt {l : List Ad} {s : Am} (h : Dq l s = false) : s.Ai.length ≤ 8 ∧ MB l s = true := by
 unfold Dq at h
 rw [Bool.or_eq_false_iff, decide_eq_false_iff_not, Bool.not_eq_false'] at h
 exact ⟨by omega, h.2⟩
theorem Rv {l : List Ad} {s : Am} (h : s.Ai.length ≤ 8 ∧ MB l s = true) : Dq l s = false := by
 unfold Dq
 rw [h.2, Bool.or_eq_false_iff, decide_eq_false_iff_not]
 exact ⟨by omega, rfl⟩
theorem Xv (e : AD) (h : Eh e.Classes) : ∃ x, HC e 16 = some x ∧ (x = 0 ↔ Nm e) := by
 unfold HC
 rw [Oe _ h, YE]
 by_cases h1 : ((FY e.Classes).2 != 0) = true
 ·rw [Ab h1]
  rw [B9] at h1
  exact ⟨_, rfl, fun h => absurd h h1, fun h => absurd h.ok h1⟩
 rw [Ac h1]
 have hc : (FY e.Classes).2 = 0 := by simpa using h1
 have hg := Rx h hc
 by_cases h2 : decide ((e.AO.length : Int) > 64) = true
 ·rw [Ab h2]
  rw [Aa] at h2
  exact ⟨_, rfl, fun h => (by omega), fun h => (by have := h.few; omega)⟩
 rw [Ac h2]
 have h64 : e.AO.length ≤ 64 := by rw [Aa] at h2; omega
 obtain ⟨r, hr, hb, hgd⟩ := Ui e h64
 rw [hr, YE]
 by_cases hbad : ∃ s ∈ e.AO, Dq e.Classes s = true
 ·obtain ⟨x, rfl, hx⟩ := hb hbad
  dsimp only
  refine ⟨_, rfl, fun h => absurd h hx, fun h => ?_⟩
  obtain ⟨s, hs, hsb⟩ := hbad
  rw [Rv (h.sigs s hs)] at hsb; cases hsb
 ·have hall : ∀ s ∈ e.AO, Dq e.Classes s = false := fun s hs => by
   rcases hx : Dq e.Classes s with _ | _
   ·rfl
   ·exact absurd ⟨s, hs, hx⟩ hbad
  obtain rfl := hgd hall
  dsimp only
  by_cases h3 : decide (e.Fn < 0) = true
  ·rw [Ab h3]
   rw [Aa] at h3
   exact ⟨_, rfl, fun h => (by omega), fun h => (by have := h.fn; omega)⟩
  rw [Ac h3]
  by_cases h4 : decide (e.Fn ≥ (e.AO.length : Int)) = true
  ·rw [Ab h4]
   rw [Aa] at h4
   exact ⟨_, rfl, fun h => (by omega), fun h => (by have := h.fn; omega)⟩
  rw [Ac h4]
  rw [Aa] at h3 h4
  have hE : Nm e := ⟨hc, hg, h64, fun s hs => Pt (hall s hs), by omega⟩
  obtain ⟨n, hn⟩ := YK (show 0 ≤ e.Fn by omega)
  have hlt : n < e.AO.length := by omega
  rw [hn, AV hlt, YE]
  obtain ⟨h8, hv⟩ := Pt (hall _ (YI hlt))
  unfold MB at hv
  rw [YL] at hv
  obtain ⟨f, hf⟩ := V9 e.Classes _ h8 hv.1
  rw [hf, YE]
  exact ⟨0, rfl, fun _ => hE, fun _ => rfl⟩
theorem Vs (e : AD) (h : Eh e.Classes) : ∃ b, DN e = some b ∧ (b = true ↔ Nm e) := by
 unfold DN
 rw [TG _ h, YE]
 by_cases h1 : ((FY e.Classes).2 != 0) = true
 ·rw [Ab h1]
  rw [B9] at h1
  exact ⟨_, rfl, fun h => (by cases h), fun h => absurd h.ok h1⟩
 rw [Ac h1]
 have hc : (FY e.Classes).2 = 0 := by simpa using h1
 have hg := Rx h hc
 by_cases h2 : decide ((e.AO.length : Int) > 64) = true
 ·rw [Ab h2]
  rw [Aa] at h2
  exact ⟨_, rfl, fun h => (by cases h), fun h => (by have := h.few; omega)⟩
 rw [Ac h2]
 have h64 : e.AO.length ≤ 64 := by rw [Aa] at h2; omega
 by_cases h3 : decide (e.Fn < 0) = true
 ·rw [Ab h3]
  rw [Aa] at h3
  exact ⟨_, rfl, fun h => (by cases h), fun h => (by have := h.fn; omega)⟩
 rw [Ac h3]
 by_cases h4 : decide (e.Fn ≥ (e.AO.length : Int)) = true
 ·rw [Ab h4]
  rw [Aa] at h4
  exact ⟨_, rfl, fun h => (by cases h), fun h => (by have := h.fn; omega)⟩
 rw [Ac h4]
 rw [Aa] at h3 h4
 have hloop : ∃ r, Ay (BI e) 0 = some r ∧ ((∃ s ∈ e.AO, Dq e.Classes s = true) → r = .inl false) ∧ ((∀ s ∈ e.AO, Dq e.Classes s = false) → r = .inr ()) := by
  refine Hr e.AO (bad := Dq e.Classes) (body := BI e) (Pb := fun r : Bool ⊕ Unit => r = .inl false) (fun i hi => ?_) (by unfold BI; rw [Ac (by rw [Aa]; omega)])
  have hin : e.AO[i].Ai.length ≤ 8 → ∃ r, Ay (BG e e.AO[i]) 0 = some r ∧ ((∃ t ∈ e.AO[i].Ai, (!st e.Classes t) = true) → r = .inl false) ∧ ((∀ t ∈ e.AO[i].Ai, (!st e.Classes t) = false) → r = .inr ()) := fun h8 => by
   refine Hr e.AO[i].Ai (bad := fun t => !st e.Classes t) (body := BG e e.AO[i]) (Pb := fun r : Bool ⊕ Unit => r = .inl false) (fun j hj => ?_) (by unfold BG; rw [Ac (by rw [Aa]; omega)])
   have hb : BG e e.AO[i] (j : Int) = if (!st e.Classes e.AO[i].Ai[j]) = true then some (.inr (.inl false)) else some (.inl ((j + 1 : Nat) : Int)) := by
    unfold BG
    rw [Ab (by rw [Aa]; omega), AV hj, YE, Mr, YE, Ef (by omega)]
   split
   ·rename_i hx; rw [Ab hx] at hb; exact ⟨_, hb, rfl⟩
   ·rename_i hx; rw [Ac hx] at hb; exact hb
  have hb : BI e (i : Int) = if Dq e.Classes e.AO[i] = true then some (.inr (.inl false)) else some (.inl ((i + 1 : Nat) : Int)) := by
   unfold BI Dq
   rw [Ab (by rw [Aa]; omega), AV hi, YE]
   by_cases h8 : 8 < e.AO[i].Ai.length
   ·rw [Ab (by rw [Aa]; omega)]; simp [h8]
   ·obtain ⟨r, hr, hr1, hr2⟩ := hin (by omega)
    have hd : decide (8 < e.AO[i].Ai.length) = false := by simpa using h8
    rw [Ac (by rw [Aa]; omega), Mr, Q9, hd, Ef (by omega)]
    unfold MB
    rcases hp : e.AO[i].Ai.all (st e.Classes) with _ | _
    ·have hr0 : r = .inl false := hr1 (by
      rw [List.all_eq_false] at hp
      obtain ⟨t, ht, h⟩ := hp
      exact ⟨t, ht, by simpa using h⟩)
     rw [hr, hr0]
     rcases st e.Classes e.AO[i].Result with _ | _ <;> by_cases h0 : e.AO[i].Result.toNat = 0 <;> simp [h0]
    ·have hr0 : r = .inr () := hr2 (fun t ht => by
      have := (List.all_eq_true.1 hp) t ht
      simp [this])
     rw [hr, hr0]
     rcases st e.Classes e.AO[i].Result with _ | _ <;> by_cases h0 : e.AO[i].Result.toNat = 0 <;> simp [h0]
  split
  ·rename_i hx; rw [Ab hx] at hb; exact ⟨_, hb, rfl⟩
  ·rename_i hx; rw [Ac hx] at hb; exact hb
 obtain ⟨r, hr, hb, hgd⟩ := hloop
 rw [hr, YE]
 by_cases hbad : ∃ s ∈ e.AO, Dq e.Classes s = true
 ·rw [hb hbad]
  dsimp only
  refine ⟨_, rfl, fun h => (by cases h), fun h => ?_⟩
  obtain ⟨s, hs, hsb⟩ := hbad
  rw [Rv (h.sigs s hs)] at hsb; cases hsb
 ·have hall : ∀ s ∈ e.AO, Dq e.Classes s = false := fun s hs => by
   rcases hx : Dq e.Classes s with _ | _
   ·rfl
   ·exact absurd ⟨s, hs, hx⟩ hbad
  rw [hgd hall]
  exact ⟨true, rfl, fun _ => ⟨hc, hg, h64, fun s hs => Pt (hall s hs), by omega⟩, fun _ => rfl⟩
end Go.Proofs.YtpnacdckamiedaaGreat
namespace Go.Proofs.YtpnacdckamiedaaGreat
open Go Go.RowKit Go.Pv Go.Proofs.Tryz
def EG (n : Nat) (v : MV) : Prop := v.kind = 3 → 0 ≤ v.n ∧ v.n ≤ n
structure Ke (M : Ah) (n : Nat) (c : MC) : Prop where
 fn : 0 ≤ c.fn ∧ c.fn < M.Funcs.length
 at_ : 0 ≤ c.at_ ∧ c.at_ ≤ 1000000
 vars : ∀ v ∈ c.vars, EG n v
 stack : ∀ v ∈ c.stack, EG n v
 nv : c.vars.length ≤ 16
 ns : c.stack.length ≤ 24
structure Me (M : Ah) (n : Nat) (o : MO) : Prop where
 cls : o.cls < M.Classes.length
 nums : ∀ (i : Nat) (f : Av) (x : Int), 0 ≤ o.cls → (BR M.Classes o.cls)[i]? = some f → f.Fv.toNat ≠ 1 → f.Fv.toNat ≠ 2 → o.nums[i]? = some x → 0 ≤ x ∧ x ≤ n
structure DZ (M : Ah) : Prop where
 env : Nm (Gt M 0)
 funcs : ∀ f ∈ M.Funcs, (f.Sig.Ai.length : Int) ≤ f.Ak ∧ f.Ak ≤ 16 ∧ f.Code.length ≤ 4096
theorem DZ.good {M : Ah} (h : DZ M) : Good M.Classes := h.env.good
structure Inv (M : Ah) (st : Int) (ov : Bool) (s : MS) : Prop where
 m : s.m = M
 nc : s.calls.length ≤ 64
 ne : s.calls ≠ []
 calls : ∀ c ∈ s.calls, Ke M s.A4.length c
 A4 : ∀ o ∈ s.A4, Me M s.A4.length o
 room : 0 ≤ s.used ∧ s.used ≤ s.room ∧ s.room ≤ 4096 ∧ (s.A4.length : Int) ≤ s.used
 told : s.told.length ≤ 1024
 steps : s.steps = st
 over : s.over = ov
def CE {α : Type} (M : Ah) (st : Int) (ov : Bool) (Q : α → MS → Prop) (o : Option (Re α × MS)) : Prop := ∃ r s, o = some (r, s) ∧ Inv M st ov s ∧ match r with
 | .ok a => Q a s
 | .no e _ _ => e ≠ 150
section
variable {M : Ah} {st : Int} {ov : Bool} {α β : Type} {s : MS}
theorem CE.ok {Q : α → MS → Prop} {a : α} (h : Inv M st ov s) (hq : Q a s) : CE M st ov Q (some (.ok a, s)) := ⟨_, _, rfl, h, hq⟩
theorem CE.no {Q : α → MS → Prop} {e t q : Int} (h : Inv M st ov s) (hq : e ≠ 150) : CE M st ov Q (some (.no e t q, s)) := ⟨_, _, rfl, h, hq⟩
theorem CE.mb {m : Option (Re α × MS)} {f : α → MS → Option (Re β × MS)} {P : α → MS → Prop} {Q : β → MS → Prop} (h1 : CE M st ov P m) (h2 : ∀ a s, Inv M st ov s → P a s → CE M st ov Q (f a s)) : CE M st ov Q (Mb m f) := by
 obtain ⟨r, s, rfl, hi, hq⟩ := h1
 cases r with
 | ok a => exact h2 a s hi hq
 | no e t q => exact .no hi hq
theorem CE.mono {m : Option (Re α × MS)} {P Q : α → MS → Prop} (h1 : CE M st ov P m) (h2 : ∀ a s, Inv M st ov s → P a s → Q a s) : CE M st ov Q m := by
 obtain ⟨r, s, rfl, hi, hq⟩ := h1
 cases r with
 | ok a => exact .ok hi (h2 a s hi hq)
 | no e t q => exact .no hi hq
theorem CE.bind {γ : Type} {o : Option γ} {x : γ} {f : γ → Option (Re β × MS)} {Q : β → MS → Prop} (h : o = some x) (k : CE M st ov Q (f x)) : CE M st ov Q (o.bind f) := by rw [h]; exact k
theorem CE.ite {c : Prop} [Decidable c] {a b : Option (Re β × MS)} {Q : β → MS → Prop} (h1 : c → CE M st ov Q a) (h2 : ¬ c → CE M st ov Q b) : CE M st ov Q (if c then a else b) := by
 split
 ·rename_i h; exact h1 h
 ·rename_i h; exact h2 h
theorem Inv.top (h : Inv M st ov s) : ∃ c r, s.calls = c :: r := by
 rcases hc : s.calls with _ | ⟨c, r⟩
 ·exact absurd hc h.ne
 ·exact ⟨c, r, rfl⟩
theorem Inv.set (h : Inv M st ov s) {c c' : MC} {r : List MC} (hc : s.calls = c :: r) (hok : Ke M s.A4.length c') : Inv M st ov { s with calls := c' :: r } := by
 refine ⟨h.m, ?_, by simp, ?_, h.A4, h.room, h.told, h.steps, h.over⟩
 ·have := h.nc; rw [hc] at this; simpa using this
 ·intro x hx
  rcases List.mem_cons.1 hx with rfl | hx
  ·exact hok
  ·exact h.calls x (by rw [hc]; exact .tail _ hx)
theorem Inv.JJ (h : Inv M st ov s) {c : MC} {r : List MC} (hc : s.calls = c :: r) : Ke M s.A4.length c := h.calls c (by rw [hc]; exact .head _)
theorem CW {b : Bool} (h : Inv M st ov s) : CE M st ov (fun _ s' => s' = s ∧ b = true) (Bc b s) := by
 unfold Bc
 exact .ite (fun hb => .ok h ⟨rfl, hb⟩) (fun _ => .no h (by decide))
theorem Fh {n : Int} {Q : α → MS → Prop} (h : Inv M st ov s) : CE M st ov Q (GL n s) := .no h (by decide)
theorem MF (h : Inv M st ov s) : CE M st ov (fun _ s' => s' = s ∧ ∀ c r, s.calls = c :: r → c.vars.length + c.stack.length < 24) (Ia s) := by
 obtain ⟨c, r, hc⟩ := h.top
 have hok := h.JJ hc
 have h1 := hok.nv
 have h2 := hok.ns
 unfold Ia
 rw [hc]
 dsimp only
 refine (CW h).mono fun _ s' _ ⟨hs, hb⟩ => ⟨hs, fun c' r' hc' => ?_⟩
 cases hc'
 rw [Aa, CB (by omega) (by omega)] at hb
 omega
theorem Lg {k n : Int} (h : Inv M st ov s) (hv : EG s.A4.length ⟨k, n⟩) : CE M st ov (fun _ s' => s'.A4 = s.A4) (Cb k n s) := by
 unfold Cb
 refine .mb (MF h) fun _ s' hi ⟨hs, hr⟩ => ?_
 subst hs
 obtain ⟨c, r, hc⟩ := h.top
 have hok := h.JJ hc
 have h2 := hok.ns
 have h3 := hr c r hc
 rw [hc]
 dsimp only
 refine .bind (Cg (by simp; omega)) (.ok (h.set hc ⟨hok.fn, hok.at_, hok.vars, fun v hv' => ?_, hok.nv, by simp; omega⟩) rfl)
 rcases List.mem_append.1 hv' with hv' | hv'
 ·exact hok.stack v hv'
 ·rw [YH] at hv'; subst hv'; exact hv
theorem BW {k n : Int} (h : Inv M st ov s) (hv : EG s.A4.length ⟨k, n⟩) : CE M st ov (fun _ _ => True) (Cb k n s) := (Lg h hv).mono fun _ _ _ _ => trivial
theorem Fj {n : Nat} {k x : Int} (h : k ≠ 3) : EG n ⟨k, x⟩ := fun h' => absurd h' h
theorem LU {b : Bool} (h : Inv M st ov s) : CE M st ov (fun _ _ => True) (Lc b s) := BW h (Fj (by decide))
theorem GI (h : Inv M st ov s) : CE M st ov (fun (v : MV) s' => EG s.A4.length v ∧ ∃ c r l, s.calls = c :: r ∧ s' = { s with calls := { c with stack := l } :: r }) (many s) := by
 obtain ⟨c, r, hc⟩ := h.top
 have hok := h.JJ hc
 have h2 := hok.ns
 unfold many
 rw [hc]
 dsimp only
 refine .mb (CW h) fun _ s' hi ⟨hs, hb⟩ => ?_
 subst hs
 rw [Aa] at hb
 have e : wr ((c.stack.length : Int) - 1) = ((c.stack.length - 1 : Nat) : Int) := by rw [CB (by omega) (by omega)]; omega
 rw [e]
 have hlt : c.stack.length - 1 < c.stack.length := by omega
 refine .bind (AV hlt) (.bind (Km (by omega)) (.ok (h.set hc ⟨hok.fn, hok.at_, hok.vars, fun v hv' => ?_, hok.nv, by simp; omega⟩) ⟨hok.stack _ (YI hlt), c, r, _, rfl, rfl⟩))
 exact hok.stack v (List.mem_of_mem_take (List.mem_of_mem_drop hv'))
theorem Ku (h : Inv M st ov s) : CE M st ov (fun (v : MV) s' => (0 ≤ v.n ∧ v.n ≤ (s.A4.length : Int)) ∧ s'.A4 = s.A4) (Ic s) := by
 unfold Ic
 refine .mb (GI h) fun v s' hi ⟨hv, c, r, l, hc, hs⟩ => .mb (CW hi) fun _ s2 hi2 ⟨hs2, hb⟩ => ?_
 subst hs2
 exact .ok hi2 ⟨hv (by simpa using hb), by rw [hs]⟩
theorem IA {v : MV} (h : Inv M st ov s) : CE M st ov (fun (a : Int) s' => s' = s ∧ a = v.n ∧ v.n ≠ 0) (Gu v s) := by
 unfold Gu
 exact .ite (fun _ => Fh h) (fun hb => .ok h ⟨rfl, rfl, by simpa using hb⟩)
theorem UY {i : Int} (h : Inv M st ov s) (h0 : 0 ≤ i) : CE M st ov (fun (v : MV) s' => s' = s ∧ EG s.A4.length v) (Ly i s) := by
 obtain ⟨c, r, hc⟩ := h.top
 unfold Ly
 rw [hc]
 dsimp only
 refine .mb (CW h) fun _ s' hi ⟨hs, hb⟩ => ?_
 subst hs
 rw [Aa] at hb
 obtain ⟨x, hx, hx2⟩ := FA h0 hb
 exact .bind hx (.ok h ⟨rfl, (h.JJ hc).vars _ (YJ hx2)⟩)
theorem TC {i : Int} (h : Inv M st ov s) : CE M st ov (fun _ s' => s' = s ∧ ∀ c r, s.calls = c :: r → i < c.vars.length) (I6 i s) := by
 obtain ⟨c, r, hc⟩ := h.top
 unfold I6
 rw [hc]
 dsimp only
 refine (CW h).mono fun _ s' _ ⟨hs, hb⟩ => ⟨hs, fun c' r' hc' => ?_⟩
 cases hc'
 rw [Aa] at hb
 exact hb
theorem Uq {i : Int} {v : MV} (h : Inv M st ov s) (h0 : 0 ≤ i) (hlt : ∀ c r, s.calls = c :: r → i < c.vars.length) (hv : EG s.A4.length v) : CE M st ov (fun _ _ => True) (KE i v s) := by
 obtain ⟨c, r, hc⟩ := h.top
 have hok := h.JJ hc
 unfold KE
 rw [hc]
 dsimp only
 obtain ⟨x, hx, _⟩ := FA h0 (hlt c r hc)
 refine .bind hx (.ok (h.set hc ⟨hok.fn, hok.at_, fun y hy => ?_, hok.stack, by simpa using hok.nv, hok.ns⟩) trivial)
 rcases List.mem_or_eq_of_mem_set hy with hy | rfl
 ·exact hok.vars y hy
 ·exact hv
theorem SX {op : UInt8} {A : Int} (h : Inv M st ov s) (h0 : 0 ≤ A) : CE M st ov (fun _ _ => True) (I9 op A s) := by
 unfold I9
 refine .ite (fun _ => .mb (UY h h0) fun v s' hi ⟨hs, hv⟩ => .mb (CW hi) fun _ s2 hi2 ⟨hs2, _⟩ => ?_) fun _ => .ite (fun _ => .mb (TC h) fun _ s1 hi ⟨hs, hlt⟩ => .mb (GI hi) fun v s2 hi2 ⟨hv, c, r, l, hc, hs2⟩ => .mb (CW hi2) fun _ s3 hi3 ⟨hs3, _⟩ => ?_) fun _ =>
  .ite (fun _ => .mb (GI h) fun v s' hi _ => .ok hi trivial) fun _ => .ite (fun _ => .mb (GI h) fun v s1 hi ⟨hv, c, r, l, hc, hs⟩ => ?_) fun _ => .mb (GI h) fun v s1 hi ⟨hv, c, r, l, hc, hs⟩ => .mb (GI hi) fun w s2 hi2 ⟨hw, c2, r2, l2, hc2, hs2⟩ => ?_
 ·subst hs2; subst hs; exact BW hi2 hv
 ·subst hs3; subst hs2; subst hs
  refine Uq hi3 h0 (fun c' r' hc' => ?_) hv
  cases hc'
  exact hlt c r hc
 ·subst hs
  exact .mb (Lg hi hv) fun _ s2 hi2 hk => BW hi2 (by rw [hk]; exact hv)
 ·subst hs2; subst hs
  exact .mb (Lg hi2 hv) fun _ s3 hi3 hk => BW hi3 (by rw [hk]; exact hw)
end
end Go.Proofs.YtpnacdckamiedaaGreat
namespace Go.Proofs.YtpnacdckamiedaaGreat
open Go Go.RowKit Go.Pv Go.Proofs.Tryz
theorem P6 {l : List Ad} {n : Nat} (R : Cj l n) : ∀ (k : Nat) (c : Int), c < k → c < n → c < l.length → ∀ x ∈ DF l c, ∃ us, DF l c = us ++ DF l (x : Int)
 | 0, c, hk, hn, hl, x, hx => by rw [Fg (by omega)] at hx; cases hx
 | k + 1, c, hk, hn, hl, x, hx => by
  by_cases h0 : 0 ≤ c
  ·obtain ⟨c, rfl⟩ := YK h0
   have hr := R c (by omega) (by omega)
   rw [ET R c (by omega) (by omega)] at hx ⊢
   rcases List.mem_cons.1 hx with rfl | hx
   ·exact ⟨[], by rw [ET R x (by omega) (by omega)]; rfl⟩
   ·obtain ⟨us, h⟩ := P6 R k l[c].Al (by omega) (by omega) (by omega) x hx
    exact ⟨c :: us, by rw [h]; rfl⟩
  ·rw [Fg (by omega)] at hx; cases hx
theorem RO {l : List Ad} {c : Nat} (R : Cj l l.length) (hc : c < l.length) {x : Nat} (hx : x ∈ DF l (c : Int)) : ∃ r, BR l (c : Int) = BR l (x : Int) ++ r := by
 obtain ⟨us, h⟩ := P6 R (c + 1) (c : Int) (by omega) (by omega) (by omega) x hx
 refine ⟨us.reverse.flatMap (G8 l), ?_⟩
 unfold BR
 rw [h, List.reverse_append, List.flatMap_append]
section
variable {M : Ah} {st : Int} {ov : Bool} {s : MS}
theorem Nv {l : List Ad} (R : Cj l l.length) (cls : Int) : ∀ (k : Nat) (c : Int), c < k → c < l.length → -1 ≤ c → ∃ b, Ay (GY l cls) (c, decide (c ≥ 0)) = some b ∧ (b = true → ∃ x : Nat, (x : Int) = cls ∧ x ∈ DF l c)
 | 0, c, hk, hl, h1 => by
  have e : decide (c ≥ 0) = false := by rw [decide_eq_false_iff_not]; omega
  rw [e]
  exact ⟨false, AY (by unfold GY; rw [Ac (by simp)]), fun h => by cases h⟩
 | k + 1, c, hk, hl, h1 => by
  by_cases h0 : 0 ≤ c
  ·obtain ⟨c, rfl⟩ := YK h0
   have hr := R c (by omega) (by omega)
   have e : decide ((c : Int) ≥ 0) = true := by rw [Aa]; omega
   rw [e]
   by_cases hc : (c : Int) = cls
   ·refine ⟨true, AY (by unfold GY; rw [Ab rfl, Ac (by simpa using hc)]), fun _ => ⟨c, hc, ?_⟩⟩
    rw [ET R c (by omega) (by omega)]; exact .head _
   ·obtain ⟨b, hb, hb2⟩ := Nv R cls k l[c].Al (by omega) (by omega) hr.1
    refine ⟨b, ?_, fun h => ?_⟩
    ·rw [CN (s' := (l[c].Al, decide (l[c].Al ≥ 0)))]
     ·exact hb
     ·unfold GY
      rw [Ab rfl, Ab (by simpa using hc), AV (by omega), YE]
    ·obtain ⟨x, hx, hx2⟩ := hb2 h
     refine ⟨x, hx, ?_⟩
     rw [ET R c (by omega) (by omega)]; exact .tail _ hx2
  ·have e : decide (c ≥ 0) = false := by rw [decide_eq_false_iff_not]; omega
   rw [e]
   exact ⟨false, AY (by unfold GY; rw [Ac (by simp)]), fun h => by cases h⟩
theorem Inv.obj (h : Inv M st ov s) {n : Int} (h0 : n ≠ 0) (h1 : 0 ≤ n ∧ n ≤ (s.A4.length : Int)) : ∃ o, idx s.A4 (n - 1) = some o ∧ Me M s.A4.length o ∧ s.A4[(n - 1).toNat]? = some o := by
 obtain ⟨o, ho, Hh⟩ := FA (l := s.A4) (i := n - 1) (by omega) (by omega)
 exact ⟨o, ho, h.A4 o (YJ Hh), Hh⟩
theorem Lp (h : Inv M st ov s) (hM : DZ M) (ref cls : Int) : ∃ b, Jm s ref cls = some b ∧ (b = true → ∃ (o : MO) (c x : Nat), idx s.A4 (ref - 1) = some o ∧ o.cls = c ∧ c < M.Classes.length ∧ (x : Int) = cls ∧ x ∈ DF M.Classes (c : Int)) := by
 unfold Jm Jr
 rw [h.m]
 rcases ho : idx s.A4 (ref - 1) with _ | o
 ·exact ⟨false, AY (by unfold GY; rw [Ac (by simp)]), fun h => by cases h⟩
 ·dsimp only
  have hO := h.A4 o (YJ (DT ho).2.2)
  by_cases hc : decide (o.cls < 0) = true
  ·rw [Ab hc]
   exact ⟨false, AY (by unfold GY; rw [Ac (by simp)]), fun h => by cases h⟩
  ·rw [Ac hc]
   rw [Aa] at hc
   obtain ⟨c, Ki⟩ := YK (show 0 ≤ o.cls by omega)
   have hlt := hO.cls
   obtain ⟨b, hb, hb2⟩ := Nv hM.good.right cls (c + 1) (c : Int) (by omega) (by omega) (by omega)
   have e : decide ((c : Int) ≥ 0) = true := by rw [Aa]; omega
   rw [e] at hb
   refine ⟨b, by rw [Ki]; exact hb, fun hbt => ?_⟩
   obtain ⟨x, hx, hx2⟩ := hb2 hbt
   exact ⟨o, c, x, rfl, Ki, by omega, hx, hx2⟩
theorem Wl (h : Inv M st ov s) (hM : DZ M) (v : MV) (t : UInt8) : ∃ b, Ro s v t = some b ∧ (b = true → t.toNat ≠ 1 → t.toNat ≠ 2 → v.kind = 3) ∧ (b = true → t.toNat = 4 → v.n ≠ 0 → (Jr s v.n).2 = false) ∧
  (b = true → 16 ≤ t.toNat → v.n ≠ 0 → ∃ (o : MO) (c : Nat), idx s.A4 (v.n - 1) = some o ∧ o.cls = c ∧ c < M.Classes.length ∧ (t.toNat - 16) ∈ DF M.Classes (c : Int)) := by
 have e1 : ((t.toNat : Int) == 1) = decide (t.toNat = 1) := Bj _ 1
 have e2 : ((t.toNat : Int) == 2) = decide (t.toNat = 2) := Bj _ 2
 have e4 : ((t.toNat : Int) == 4) = decide (t.toNat = 4) := Bj _ 4
 have e5 : ((t.toNat : Int) == 5) = decide (t.toNat = 5) := Bj _ 5
 unfold Ro
 rw [e1, e2, e4, e5]
 by_cases h1 : t.toNat = 1
 ·rw [Ab (by simpa using h1)]
  exact ⟨_, rfl, fun _ h => absurd h1 h, fun _ h => by omega, fun _ h => by omega⟩
 rw [Ac (by simpa using h1)]
 by_cases h2 : t.toNat = 2
 ·rw [Ab (by simpa using h2)]
  exact ⟨_, rfl, fun _ _ h => absurd h2 h, fun _ h => by omega, fun _ h => by omega⟩
 rw [Ac (by simpa using h2)]
 by_cases h3 : (v.kind != 3) = true
 ·rw [Ab h3]
  exact ⟨false, rfl, fun h => (Bool.false_ne_true h).elim, fun h => (Bool.false_ne_true h).elim, fun h => (Bool.false_ne_true h).elim⟩
 rw [Ac h3]
 have hk : v.kind = 3 := by simpa using h3
 by_cases h4 : (v.n == 0) = true
 ·rw [Ab h4]
  have h0 : v.n = 0 := by simpa using h4
  exact ⟨_, rfl, fun _ _ _ => hk, fun _ _ h => absurd h0 h, fun _ _ h => absurd h0 h⟩
 rw [Ac h4]
 by_cases h5 : t.toNat = 5
 ·rw [Ab (by simpa using h5)]
  exact ⟨_, rfl, fun _ _ _ => hk, fun _ h => by omega, fun _ h => by omega⟩
 rw [Ac (by simpa using h5)]
 by_cases h6 : t.toNat = 4
 ·rw [Ab (by simpa using h6)]
  exact ⟨_, rfl, fun _ _ _ => hk, fun h _ _ => by simpa using h, fun _ h => by omega⟩
 rw [Ac (by simpa using h6)]
 obtain ⟨b, hb, hb2⟩ := Lp h hM v.n ((Ew ((t.toNat : Int) - 16)).toNat : Int)
 refine ⟨b, hb, fun _ _ _ => hk, fun _ h => absurd h h6, fun hbt h16 _ => ?_⟩
 obtain ⟨o, c, x, ho, hc, hlt, hx, hx2⟩ := hb2 hbt
 rw [KC t h16] at hx
 have : x = t.toNat - 16 := by omega
 subst this
 exact ⟨o, c, ho, hc, hlt, hx2⟩
structure Is (M : Ah) (s : MS) (t : UInt8) (v : MV) : Prop where
 ok : EG s.A4.length v
 ref : t.toNat ≠ 1 → t.toNat ≠ 2 → v.kind = 3
 row : t.toNat = 4 → v.n ≠ 0 → (Jr s v.n).2 = false
 cl : 16 ≤ t.toNat → v.n ≠ 0 → ∃ (o : MO) (c : Nat), idx s.A4 (v.n - 1) = some o ∧ o.cls = c ∧ c < M.Classes.length ∧ (t.toNat - 16) ∈ DF M.Classes (c : Int)
theorem CZ (hM : DZ M) {t : UInt8} (h : Inv M st ov s) : CE M st ov (fun (v : MV) s' => Is M s' t v ∧ s'.A4 = s.A4 ∧ s'.calls.length = s.calls.length) (DD t s) := by
 unfold DD
 refine .mb (GI h) fun v s' hi ⟨hv, c, r, l, hc, hs⟩ => ?_
 obtain ⟨b, hb, k1, k2, k3⟩ := Wl hi hM v t
 refine .bind hb (.ite (fun hbt => .ok hi ⟨⟨by rw [hs]; exact hv, k1 hbt, k2 hbt, k3 hbt⟩, by rw [hs], by rw [hs, hc]; rfl⟩) fun _ => .no hi (by decide))
end
end Go.Proofs.YtpnacdckamiedaaGreat
namespace Go.Proofs.YtpnacdckamiedaaGreat
open Go Go.RowKit Go.Pv Go.Proofs.Tryz
section
variable {M : Ah} {st : Int} {ov : Bool} {s : MS}
theorem LS {α : Type} {b : Nat} {k : Int} {x : α} (h0 : 0 ≤ k) (h1 : (b : Int) * k ≤ 281474976710656) (h2 : k ≤ 9223372036854775807) : Ol b k x = some (List.replicate k.toNat x) := by unfold Ol; rw [Ab ⟨h0, h1, h2⟩]
theorem K8 {n : Nat} {x : Int} : EG n ⟨1, x⟩ := Fj (by decide)
theorem WT {n : Nat} {x : Int} : EG n ⟨2, x⟩ := Fj (by decide)
theorem Sj (hM : DZ M) {op : UInt8} (h : Inv M st ov s) : CE M st ov (fun _ _ => True) (Io op s) := by
 unfold Io
 refine .ite (fun _ => .mb (CZ hM h) fun v s hi _ => BW hi K8) fun _ => .ite (fun _ => .mb (CZ hM h) fun v s hi _ => BW hi WT) fun _ => .ite (fun _ => .mb (GI h) fun v s hi _ => .mb (GI hi) fun v s hi _ => .mb (CW hi) fun _ s2 hi _ => LU hi) fun _ => ?_
 refine .mb (CZ hM h) fun y s hi _ => .mb (CZ hM hi) fun x s hi _ => ?_
 exact .ite (fun _ => BW hi K8) fun _ => .ite (fun _ => BW hi K8) fun _ => .ite (fun _ => BW hi K8) fun _ => .ite (fun _ => LU hi) fun _ => .ite (fun _ => Fh hi) fun _ => .ite (fun _ => BW hi K8) fun _ => BW hi K8
theorem EG.up {n k : Nat} {v : MV} (h : EG n v) (hk : n ≤ k) : EG k v := fun h3 => by have := h h3; omega
theorem Ke.up {n k : Nat} {c : MC} (h : Ke M n c) (hk : n ≤ k) : Ke M k c := ⟨h.fn, h.at_, fun v hv => (h.vars v hv).up hk, fun v hv => (h.stack v hv).up hk, h.nv, h.ns⟩
theorem Me.up {n k : Nat} {o : MO} (h : Me M n o) (hk : n ≤ k) : Me M k o := ⟨h.cls, fun i f x h0 hf h1 h2 hx => by have := h.nums i f x h0 hf h1 h2 hx; omega⟩
theorem Pg (h : Inv M st ov s) {cls n : Int} (hc : cls < M.Classes.length) (hn : 0 ≤ n) (hn2 : n ≤ 1000000) : ∃ q, Ie s cls n = some q ∧ Inv M st ov q.2 ∧ (q.1.2 = 0 → 0 ≤ q.1.1 ∧ q.1.1 ≤ (q.2.A4.length : Int)) := by
 have hr := h.room
 unfold Ie
 have e : wr (wr (s.room - s.used) - 1) = s.room - s.used - 1 := by rw [CB (n := s.room - s.used) (by omega) (by omega), CB (by omega) (by omega)]
 rw [e]
 by_cases hg : decide (n > s.room - s.used - 1) = true
 ·rw [Ab hg]
  exact ⟨_, rfl, h, fun h => by cases h⟩
 rw [Ac hg]
 rw [Aa] at hg
 have e2 : wr ((s.A4.length : Int) + 1) = (s.A4.length : Int) + 1 := CB (by omega) (by omega)
 have e3 : wr (s.used + wr (n + 1)) = s.used + n + 1 := by rw [CB (n := n + 1) (by omega) (by omega), CB (by omega) (by omega)]; omega
 rw [LS hn (by omega) (by omega), YE, e2, Ab (by simp), e3]
 refine ⟨_, rfl, ⟨h.m, h.nc, h.ne, fun c hc => (h.calls c hc).up (by simp), fun o ho => ?_, ⟨by show 0 ≤ s.used + n + 1; omega, by show s.used + n + 1 ≤ s.room; omega, hr.2.2.1, by simp only [YF, List.length_singleton]; omega⟩, h.told, h.steps, h.over⟩, fun _ => ⟨by show 0 ≤ (s.A4.length : Int) + 1; omega, by simp⟩⟩
 rcases List.mem_append.1 ho with ho | ho
 ·exact (h.A4 o ho).up (by simp)
 ·rw [YH] at ho
  subst ho
  refine ⟨hc, fun i f x h0 hf h1 h2 hx => ?_⟩
  have : x = 0 := by
   have := YJ hx
   exact List.eq_of_mem_replicate this
  subst this
  simp
  omega
theorem Mz {ref e : Int} (h : Inv M st ov s) (hr : e = 0 → 0 ≤ ref ∧ ref ≤ (s.A4.length : Int)) : CE M st ov (fun _ _ => True) (J5 (ref, e) s) := by
 unfold J5
 exact .ite (fun _ => Fh h) fun he => BW h fun _ => hr (by simpa using he)
theorem PI {ref i : Int} {o : MO} (ho : idx s.A4 (ref - 1) = some o) : ∃ p, M5 s ref i = some p ∧ (p.1 = 0 ∨ (0 ≤ i ∧ o.nums[i.toNat]? = some p.1)) := by
 unfold M5
 rw [ho, YE]
 by_cases h0 : decide (i < 0) = true
 ·rw [Ab h0]; exact ⟨_, rfl, .inl rfl⟩
 rw [Ac h0]
 by_cases h1 : decide (i ≥ (o.nums.length : Int)) = true
 ·rw [Ab h1]; exact ⟨_, rfl, .inl rfl⟩
 rw [Ac h1]
 rw [Aa] at h0 h1
 obtain ⟨x, hx, hx2⟩ := FA (l := o.nums) (i := i) (by omega) (by omega)
 rw [hx, YE]
 exact ⟨_, rfl, .inr ⟨by omega, hx2⟩⟩
theorem Py (h : Inv M st ov s) {ref i v : Int} {o : MO} (ho : idx s.A4 (ref - 1) = some o) (hv : ∀ f, 0 ≤ o.cls → (BR M.Classes o.cls)[i.toNat]? = some f → f.Fv.toNat ≠ 1 → f.Fv.toNat ≠ 2 → 0 ≤ v ∧ v ≤ (s.A4.length : Int)) : ∃ q, FU s ref i v = some q ∧ Inv M st ov q.2 := by
 unfold FU
 rw [ho, YE]
 by_cases h0 : decide (i < 0) = true
 ·rw [Ab h0]; exact ⟨_, rfl, h⟩
 rw [Ac h0]
 by_cases h1 : decide (i ≥ (o.nums.length : Int)) = true
 ·rw [Ab h1]; exact ⟨_, rfl, h⟩
 rw [Ac h1]
 by_cases h2 : decide (v < -2147483648) = true
 ·rw [Ab h2]; exact ⟨_, rfl, h⟩
 rw [Ac h2]
 by_cases h3 : decide (v > 2147483647) = true
 ·rw [Ab h3]; exact ⟨_, rfl, h⟩
 rw [Ac h3]
 rw [Aa] at h0 h1
 obtain ⟨x, hx, hx2⟩ := FA (l := o.nums) (i := i) (by omega) (by omega)
 rw [hx, YE]
 have hO := h.A4 o (YJ (DT ho).2.2)
 refine ⟨_, rfl, ⟨h.m, h.nc, h.ne, fun c hc => by simpa using h.calls c hc, fun o' ho' => ?_, by simpa using h.room, h.told, h.steps, h.over⟩⟩
 have hl : (s.A4.set (ref - 1).toNat ⟨o.cls, o.nums.set i.toNat v⟩).length = s.A4.length := by simp
 show Me M (s.A4.set (ref - 1).toNat ⟨o.cls, o.nums.set i.toNat v⟩).length o'
 rw [hl]
 rcases List.mem_or_eq_of_mem_set ho' with ho' | rfl
 ·exact h.A4 o' ho'
 ·refine ⟨hO.cls, fun k f y h0 hf h1 h2 hy => ?_⟩
  dsimp only at hf hy h0
  by_cases hk : i.toNat = k
  ·subst hk
   rw [List.getElem?_set_self (by omega)] at hy
   cases hy
   exact hv f h0 hf h1 h2
  ·rw [List.getElem?_set_ne hk] at hy
   exact hO.nums k f y h0 hf h1 h2 hy
theorem O2 {ref i : Int} {o : MO} (h : Inv M st ov s) (ho : idx s.A4 (ref - 1) = some o) : CE M st ov (fun _ s' => s' = s) (IH ref i s) := by
 obtain ⟨p, hp, _⟩ := PI (i := i) ho
 unfold IH
 exact .bind hp (.ite (fun _ => Fh h) fun _ => .ok h rfl)
theorem TI (hM : DZ M) (h : Inv M st ov s) {fn : Int} {args : List MV} (hf : 0 ≤ fn ∧ fn < M.Funcs.length) (ha : ∀ v ∈ args, EG s.A4.length v) (hc : s.calls.length < 64) : ∃ s', Ep fn args s = some s' ∧ Inv M st ov s' := by
 obtain ⟨f, hf1, hf2⟩ := FA hf.1 hf.2
 have hfo := hM.funcs f (YJ hf2)
 have hfs : idx s.m.Funcs fn = some f := by rw [h.m]; exact hf1
 unfold Ep
 rw [hfs, YE, LS (by omega) (by omega) (by omega), YE, Ab (by rw [Aa]; omega)]
 refine ⟨_, rfl, ⟨h.m, by simp only [List.length_cons]; omega, by simp, fun c hc' => ?_, h.A4, h.room, h.told, h.steps, h.over⟩⟩
 rcases List.mem_cons.1 hc' with rfl | hc'
 ·refine ⟨hf, ⟨Int.le_refl 0, by show (0 : Int) ≤ 1000000; omega⟩, fun v hv => ?_, fun v hv => (by cases hv), ?_, by simp⟩
  ·unfold FC at hv
   rcases List.mem_append.1 hv with hv | hv
   ·exact ha v (List.mem_of_mem_take hv)
   ·have := List.eq_of_mem_replicate (List.mem_of_mem_drop hv)
    subst this
    exact Fj (by decide)
  ·unfold FC
   simp only [YF, List.length_take, List.length_replicate, List.length_drop]
   omega
 ·exact h.calls c hc'
end
end Go.Proofs.YtpnacdckamiedaaGreat
namespace Go.Proofs.YtpnacdckamiedaaGreat
open Go Go.RowKit Go.Pv Go.Proofs.Tryz
section
variable {M : Ah} {st : Int} {ov : Bool} {s : MS}
theorem O4 (hM : DZ M) (f : A3) : ∀ (k : Nat) (args : List MV) (s : MS), Inv M st ov s → k ≤ f.Sig.Ai.length → args.length = f.Sig.Ai.length → f.Sig.Ai.length ≤ 8 → (∀ v ∈ args, EG s.A4.length v) →
  ∃ r s', Ay (IZ f) ((k : Int) - 1, args, s) = some (r, s') ∧ Inv M st ov s' ∧ match r with
   | .ok a => ∀ v ∈ a, EG s'.A4.length v
   | .no e _ _ => e ≠ 150
 | 0, args, s, h, hk, hl, h8, ha => ⟨.ok args, s, AY (by unfold IZ; rw [Ac (by rw [Aa]; show ¬ (((0 : Nat) : Int) - 1 ≥ 0); omega)]), h, ha⟩
 | k + 1, args, s, h, hk, hl, h8, ha => by
  have e : (((k + 1 : Nat) : Int) - 1) = (k : Int) := by omega
  rw [e]
  have hb : IZ f ((k : Int), args, s) = (DD (f.Sig.Ai[k]'(by omega)) s).bind fun q => match q.1 with
    | .no e u v => some (.inr (.no e u v, q.2))
    | .ok x => (idx args (k : Int)).bind fun _ => some (.inl (wr ((k : Int) - 1), args.set (k : Int).toNat x, q.2)) := by
   unfold IZ
   dsimp only
   rw [Ab (by rw [Aa]; omega), AV (by omega), YE]
   rfl
  obtain ⟨r, s1, hp, hi, hq⟩ := CZ hM (t := f.Sig.Ai[k]'(by omega)) h
  rw [hp, YE] at hb
  cases r with
  | no e u v =>
   exact ⟨.no e u v, s1, AY hb, hi, hq⟩
  | ok x =>
   dsimp only at hb hq
   obtain ⟨hx, ho, hcl⟩ := hq
   rw [AV (by omega), YE, CB (by omega) (by omega)] at hb
   obtain ⟨r, s', h1, h2, h4⟩ := O4 hM f k (args.set (k : Int).toNat x) s1 hi (by omega) (by simpa using hl) h8 (fun v hv => by
    rcases List.mem_or_eq_of_mem_set hv with hv | rfl
    ·rw [ho]; exact ha v hv
    ·exact hx.ok)
   exact ⟨r, s', by rw [CN hb]; exact h1, h2, h4⟩
theorem Ul (hM : DZ M) {fn : Int} (h : Inv M st ov s) (h0 : 0 ≤ fn) : CE M st ov (fun _ _ => True) (Kq fn s) := by
 unfold Kq
 refine .mb (CW h) fun _ s' hi ⟨hs, hb⟩ => ?_
 subst hs
 rw [Aa, h.m] at hb
 obtain ⟨f, hf, hf2⟩ := FA h0 hb
 have hfs : idx s'.m.Funcs fn = some f := by rw [h.m]; exact hf
 have hsg : f.Sig ∈ (Gt M 0).AO := List.mem_map_of_mem (YJ hf2)
 have h8 := (hM.env.sigs _ hsg).1
 refine .bind hfs (.bind (LS (by omega) (by omega) (by omega)) ?_)
 have BU : ((List.replicate (f.Sig.Ai.length : Int).toNat (⟨0, 0⟩ : MV)).length : Int) = (f.Sig.Ai.length : Int) := by simp
 rw [BU, CB (by omega) (by omega)]
 obtain ⟨r, s1, h1, h2, h4⟩ := O4 hM f f.Sig.Ai.length (List.replicate (f.Sig.Ai.length : Int).toNat ⟨0, 0⟩) s' h (Nat.le_refl _) (by simp) h8 (fun v hv => by
  have := List.eq_of_mem_replicate hv
  subst this
  exact Fj (by decide))
 refine .bind h1 ?_
 cases r with
 | no e u v => exact .no h2 h4
 | ok a =>
  show CE M st ov (fun _ _ => True) (Mb (if ((f.Sig.Result.toNat : Int) != 0) = true then Ia s1 else some (.ok (), s1)) _)
  refine .mb (P := fun _ s2 => s2 = s1) (.ite (fun _ => (MF h2).mono fun _ _ _ h => h.1) fun _ => .ok h2 rfl) fun _ s2 hi2 hs2 => ?_
  subst hs2
  refine .ite (fun _ => Fh hi2) fun h64 => ?_
  have hn : s2.calls.length < 64 := by
   have := hi2.nc
   rw [show ((s2.calls.length : Int) == 64) = decide (s2.calls.length = 64) from Bj _ 64, Aa] at h64
   omega
  obtain ⟨s3, h5, h6⟩ := TI hM hi2 ⟨h0, hb⟩ h4 hn
  exact .bind h5 (.ok h6 trivial)
theorem Ta (h : Inv M st ov s) : CE M st ov (fun _ s' => s' = s) (GE s) := by
 obtain ⟨c, r, hc⟩ := h.top
 unfold GE
 rw [hc]
 exact (CW h).mono fun _ _ _ h => h.1
theorem Uv (hM : DZ M) (h : Inv M st ov s) : CE M st ov (fun _ _ => True) (KF s) := by
 obtain ⟨c, r, hc⟩ := h.top
 have hok := h.JJ hc
 obtain ⟨f, hf, hf2⟩ := FA hok.fn.1 hok.fn.2
 have hfs : idx s.m.Funcs c.fn = some f := by rw [h.m]; exact hf
 unfold KF
 rw [hc]
 dsimp only
 refine .bind hfs (.mb (P := fun v s' => EG s'.A4.length v) (.ite (fun _ => (CZ hM h).mono fun v s' _ hv => hv.1.ok) fun _ => .ok h (Fj (by decide))) fun v s1 hi hv => .mb (Ta hi) fun _ s2 hi2 hs2 => ?_)
 subst hs2
 refine .ite (fun _ => .no hi2 (by decide)) fun h1 => ?_
 obtain ⟨c2, r2, hc2⟩ := hi2.top
 have hne : r2 ≠ [] := by
  rintro rfl
  rw [hc2] at h1
  exact h1 rfl
 have hnc := hi2.nc
 rw [hc2, List.length_cons] at hnc
 have hi3 : Inv M st ov { s2 with calls := r2 } := ⟨hi2.m, by show r2.length ≤ 64; omega, hne, fun x hx => hi2.calls x (by rw [hc2]; exact .tail _ hx), hi2.A4, hi2.room, hi2.told, hi2.steps, hi2.over⟩
 have hml : IW s2 = some (.ok (), { s2 with calls := r2 }) := by unfold IW; rw [hc2]
 rw [hml]
 show CE M st ov (fun _ _ => True) (if ((f.Sig.Result.toNat : Int) != 0) = true then (if FH { s2 with calls := r2 } = true then Cb v.kind v.n { s2 with calls := r2 } else none) else some (.ok (), { s2 with calls := r2 }))
 refine .ite (fun _ => ?_) fun _ => .ok hi3 trivial
 have hfew : FH { s2 with calls := r2 } = true := by
  unfold FH
  have : 0 < r2.length := List.length_pos_iff.2 hne
  rw [Ap]
  exact CB (by show -9223372036854775808 ≤ (r2.length : Int) - 1; omega) (by show (r2.length : Int) - 1 ≤ 9223372036854775807; omega)
 rw [Ab hfew]
 exact BW hi3 hv
theorem N3 (hM : DZ M) {A : Int} (h0 : 0 ≤ A) : ∃ l, De M.Classes A = some l ∧ (A < M.Classes.length → l = BR M.Classes A ∧ l.length ≤ 32) := by
 by_cases hA : A < M.Classes.length
 ·refine ⟨_, RN M.Classes hM.good.tab hM.good.right (by have := hM.good.few; omega) A hA hA, fun _ => ⟨rfl, ?_⟩⟩
  obtain ⟨n, rfl⟩ := YK h0
  exact hM.good.fields n (by omega)
 ·refine ⟨[], ?_, fun h => absurd h hA⟩
  unfold De
  have hc : BQ M.Classes A [] = some [] := by
   unfold BQ
   rw [AY (r := .inr []) (by
    unfold Bq
    dsimp only
    rw [Ab (by rw [Aa]; omega), Ac (by rw [Aa]; omega)])]
   rfl
  rw [hc, YE, AY (r := []) (by
   unfold C4
   rw [Ac (by decide)])]
  rfl
theorem O1 (hM : DZ M) {A B : Int} (h : Inv M st ov s) (h0 : 0 ≤ A) (h1 : 0 ≤ B) : CE M st ov (fun (t : UInt8) s' => s' = s ∧ A < M.Classes.length ∧ ∃ f, (BR M.Classes A)[B.toNat]? = some f ∧ t = f.Fv) (I3 A B s) := by
 obtain ⟨l, hl, hl2⟩ := N3 hM h0
 have hls : De s.m.Classes A = some l := by rw [h.m]; exact hl
 unfold I3
 refine .bind hls (.mb (CW h) fun _ s' hi ⟨hs, hb⟩ => ?_)
 subst hs
 split at hb
 ·rename_i hA
  rw [Aa, h.m] at hA
  rw [Aa] at hb
  obtain ⟨x, hx, hx2⟩ := FA h1 hb
  refine .bind hx (.ok h ⟨rfl, hA, x, ?_, rfl⟩)
  rw [← (hl2 hA).1]; exact hx2
 ·cases hb
theorem Tz {A : Int} (h0 : 0 ≤ A) (h : A < 200) : (Ew (16 + ((Ew A).toNat : Int))).toNat = 16 + A.toNat := by
 obtain ⟨n, rfl⟩ := YK h0
 rw [QV (by omega), show (16 + (n : Int)) = ((16 + n : Nat) : Int) by omega, QV (by omega)]
 simp
theorem Uk (t : UInt8) : ∃ k, Ds t = some k ∧ (k = 3 → t.toNat ≠ 1 ∧ t.toNat ≠ 2) := by
 unfold Ds
 rw [show ((t.toNat : Int) == 1) = decide (t.toNat = 1) from Bj _ 1, show ((t.toNat : Int) == 2) = decide (t.toNat = 2) from Bj _ 2]
 by_cases h1 : t.toNat = 1
 ·rw [Ab (by simpa using h1)]; exact ⟨_, rfl, fun h => by cases h⟩
 rw [Ac (by simpa using h1)]
 by_cases h2 : t.toNat = 2
 ·rw [Ab (by simpa using h2)]; exact ⟨_, rfl, fun h => by cases h⟩
 rw [Ac (by simpa using h2)]
 exact ⟨_, rfl, fun _ => ⟨h1, h2⟩⟩
theorem SC (hM : DZ M) {A : Int} (h0 : 0 ≤ A) (hA : A < M.Classes.length) {v : MV} (hv : Is M s (Ew (16 + ((Ew A).toNat : Int))) v) (hn : v.n ≠ 0) : ∃ (o : MO) (r : List Av), idx s.A4 (v.n - 1) = some o ∧ 0 ≤ o.cls ∧ BR M.Classes o.cls = BR M.Classes A ++ r := by
 have h32 := hM.good.few
 have e := Tz h0 (by omega)
 obtain ⟨o, c, ho, hc, hlt, hx⟩ := hv.cl (by omega) hn
 rw [e, show 16 + A.toNat - 16 = A.toNat by omega] at hx
 obtain ⟨r, hr⟩ := RO hM.good.right hlt hx
 refine ⟨o, r, ho, by omega, ?_⟩
 rw [hc, hr]
 congr 2
 omega
theorem P1 {v : MV} (h : Inv M st ov s) (hv : Is M s 4 v) (hn : v.n ≠ 0) : ∃ o, idx s.A4 (v.n - 1) = some o ∧ o.cls < 0 := by
 have hk := hv.ref (by decide) (by decide)
 obtain ⟨o, ho, _, _⟩ := h.obj hn (hv.ok hk)
 have := hv.row rfl hn
 unfold Jr at this
 rw [ho] at this
 dsimp only at this
 refine ⟨o, ho, ?_⟩
 by_cases hc : decide (o.cls < 0) = true
 ·exact of_decide_eq_true hc
 ·rw [Ac hc] at this; cases this
theorem Ug (hM : DZ M) {op : UInt8} (h : Inv M st ov s) : CE M st ov (fun _ _ => True) (Ks op s) := by
 unfold Ks
 refine .ite (fun _ => .mb (CZ hM h) fun n s1 hi _ => .ite (fun _ => Fh hi) fun hn => ?_) fun _ => .ite (fun _ => .mb (CZ hM h) fun v s1 hi ⟨hv, ho, hc⟩ => .mb (IA hi) fun ref s2 hi2 ⟨hs2, hr, hn⟩ => ?_) fun _ =>
  .ite (fun _ => .mb (CZ hM h) fun i s1 hi _ => .mb (CZ hM hi) fun v s2 hi2 ⟨hv, ho, hc⟩ => .mb (IA hi2) fun ref s3 hi3 ⟨hs3, hr, hn⟩ => ?_) fun _ => .mb (CZ hM h) fun v s1 hi _ => .mb (CZ hM hi) fun i s2 hi2 _ => .mb (CZ hM hi2) fun r s3 hi3 ⟨hv, ho, hc⟩ => .mb (IA hi3) fun ref s4 hi4 ⟨hs4, hr, hn⟩ => ?_
 ·unfold hrow
  rw [Aa] at hn
  rw [Ac (by rw [Aa]; omega)]
  have hcl : (-1 : Int) < M.Classes.length := by omega
  by_cases hb : n.n ≤ 1000000
  ·obtain ⟨q, hq, hqi, hqr⟩ := Pg hi hcl (by omega) hb
   exact .bind hq (Mz hqi hqr)
  ·have hr := hi.room
   have e : wr (wr (s1.room - s1.used) - 1) = s1.room - s1.used - 1 := by rw [CB (n := s1.room - s1.used) (by omega) (by omega), CB (by omega) (by omega)]
   refine .bind (x := ((0, 7), s1)) (by unfold Ie; rw [e, Ab (by rw [Aa]; omega)]) (Mz hi fun h => by cases h)
 ·subst hs2
  obtain ⟨o, ho, _⟩ := P1 hi hv hn
  subst hr
  refine .bind (x := ((o.nums.length : Int), 0)) (by unfold BU; rw [ho]; rfl) (BW hi K8)
 ·subst hs3
  obtain ⟨o, ho, _⟩ := P1 hi2 hv hn
  subst hr
  exact .mb (O2 hi2 ho) fun n s4 hi4 hs4 => BW hi4 K8
 ·subst hs4
  obtain ⟨o, ho, hcl⟩ := P1 hi3 hv hn
  subst hr
  refine .mb (O2 hi3 ho) fun n s5 hi5 hs5 => ?_
  subst hs5
  obtain ⟨q, hq, hqi⟩ := Py (i := i.n) (v := v.n) hi3 ho fun f h0 => absurd h0 (by omega)
  exact .bind hq (.ok hqi trivial)
theorem UD (hM : DZ M) {op : UInt8} {A B : Int} (h : Inv M st ov s) (h0 : 0 ≤ A) (h1 : 0 ≤ B) : CE M st ov (fun _ _ => True) (Kv op A B s) := by
 unfold Kv
 refine .ite (fun _ => .mb (Ku h) fun _ s hi _ => .mb (Ku hi) fun _ s hi _ => LU hi) fun _ => .ite (fun _ => .mb (O1 hM h h0 h1) fun t s1 hi ⟨hs1, hA, f, hf, ht⟩ => .mb (CZ hM hi) fun v s2 hi2 ⟨hv, ho, hc⟩ => .mb (IA hi2) fun ref s3 hi3 ⟨hs3, hr, hn⟩ => ?_) fun _ =>
  .ite (fun _ => .mb (O1 hM h h0 h1) fun t s1 hi ⟨hs1, hA, f, hf, ht⟩ => .mb (CZ hM hi) fun v s2 hi2 ⟨hv, ho, hc⟩ => .mb (CZ hM hi2) fun r s3 hi3 ⟨hr3, UN, hc3⟩ => .mb (IA hi3) fun ref s4 hi4 ⟨hs4, hr, hn⟩ => ?_) fun _ => .mb (CW h) fun _ s1 hi ⟨hs1, hA⟩ => .ite (fun _ => .mb (MF hi) fun _ s2 hi2 ⟨hs2, _⟩ => ?_) fun _ =>
  .ite (fun _ => .mb (Ku hi) fun v s2 hi2 ⟨hv, ho⟩ => ?_) fun _ => .mb (Ku hi) fun v s2 hi2 ⟨hv, ho⟩ => ?_
 ·subst hs3
  obtain ⟨o, r, Hh, hcl, hfl⟩ := SC hM h0 hA hv hn
  subst hr
  obtain ⟨p, hp, hp2⟩ := PI (i := B) Hh
  obtain ⟨k, hk, hk2⟩ := Uk t
  refine .bind hp (.bind hk (BW hi2 fun h3 => ?_))
  dsimp only at h3
  rcases hp2 with hp2 | ⟨hB, hp2⟩
  ·rw [hp2]; dsimp only; omega
  ·obtain ⟨k1, k2⟩ := hk2 h3
   have hO := hi2.A4 o (YJ (DT Hh).2.2)
   have := hO.nums B.toNat f p.1 hcl (by rw [hfl, List.getElem?_append_left (List.getElem?_eq_some_iff.1 hf).1]; exact hf) (ht ▸ k1) (ht ▸ k2) hp2
   exact this
 ·subst hs4
  obtain ⟨o, r', Hh, hcl, hfl⟩ := SC hM h0 hA hr3 hn
  subst hr
  obtain ⟨q, hq, hqi⟩ := Py (i := B) (v := v.n) hi3 Hh fun f' hf0 hf' h1' h2' => by
   rw [hfl, List.getElem?_append_left (List.getElem?_eq_some_iff.1 hf).1, hf] at hf'
   cases hf'
   have hk := hv.ref (by rw [ht]; exact h1') (by rw [ht]; exact h2')
   have := hv.ok hk
   rw [← UN] at this
   exact this
  exact .bind hq (.ok hqi trivial)
 ·subst hs2; subst hs1
  rw [Aa, h.m] at hA
  obtain ⟨l, hl, hl2⟩ := N3 hM h0
  have hls : De s2.m.Classes A = some l := by rw [h.m]; exact hl
  have BU := (hl2 hA).2
  obtain ⟨q, hq, hqi, hqr⟩ := Pg h hA (n := (l.length : Int)) (by omega) (by omega)
  have hrec' : Iz s2 A = some q := by
   unfold Iz
   rw [Ac (by rw [Aa]; omega), Ac (by rw [Aa, h.m]; omega), hls, YE]
   exact hq
  exact .bind hrec' (Mz hqi hqr)
 ·subst hs1
  obtain ⟨b, hb, _⟩ := Lp hi2 hM v.n A
  by_cases hn : (v.n != 0) = true
  ·exact .bind (x := b) (by rw [Ab hn]; exact hb) (.ite (fun _ => BW hi2 fun _ => by rw [ho]; exact hv) fun _ => Fh hi2)
  ·exact .bind (x := true) (by rw [Ac hn]) (.ite (fun _ => BW hi2 fun _ => by rw [ho]; exact hv) fun _ => Fh hi2)
 ·obtain ⟨b, hb, _⟩ := Lp hi2 hM v.n A
  exact .bind hb (LU hi2)
theorem PE {A : Int} (h : Inv M st ov s) (h0 : 0 ≤ A ∧ A ≤ 1000000) : CE M st ov (fun _ _ => True) (J6 A s) := by
 obtain ⟨c, r, hc⟩ := h.top
 have hok := h.JJ hc
 unfold J6
 rw [hc]
 exact .ok (h.set hc ⟨hok.fn, h0, hok.vars, hok.stack, hok.nv, hok.ns⟩) trivial
theorem U2 {n : Int} (h : Inv M st ov s) : CE M st ov (fun _ _ => True) (LI n s) := by
 unfold LI
 refine .ite (fun _ => Fh h) fun h1 => ?_
 have ht := h.told
 rw [show ((s.told.length : Int) == 1024) = decide (s.told.length = 1024) from Bj _ 1024, Aa] at h1
 refine .bind (Cg (by simp; omega)) (.ok ⟨h.m, h.nc, h.ne, h.calls, h.A4, h.room, by simp; omega, h.steps, h.over⟩ trivial)
end
end Go.Proofs.YtpnacdckamiedaaGreat
namespace Go.Proofs.YtpnacdckamiedaaGreat
open Go Go.RowKit Go.Pv Go.Proofs.Tryz
theorem Ra {w n : Nat} (h : w ≠ 4) : Po w n = n := by unfold Po; rw [Ac (fun h2 => h h2.1)]
theorem TT {l : List UInt8} {w : Nat} (h : w ≤ 2) : num (l.take w) < 65536 := by
 have h1 := OT (l.take w)
 have h2 : (l.take w).length ≤ 2 := by simp; omega
 have h3 : 256 ^ (l.take w).length ≤ 256 ^ 2 := Nat.pow_le_pow_right (by decide) h2
 omega
theorem Tk {op : UInt8} (h : op.toNat ≠ 1) : (GU op).1 ≤ 2 := by
 unfold GU
 rw [Ac h]
 repeat' split
 all_goals simp
theorem WI {code : List UInt8} (hl : code.length ≤ 4096) {at_ : Int} (h0 : 0 ≤ at_) (h1 : at_ < code.length) : ∃ i er, Gf code at_ = some (i, er) ∧ (er = 0 → 0 ≤ i.B ∧ (i.Op.toNat ≠ 1 → 0 ≤ i.A ∧ i.A ≤ 65535)) ∧ ∃ n, ER i.Op = some n ∧ 0 ≤ n ∧ n ≤ 6 := by
 obtain ⟨k, rfl⟩ := YK h0
 have hk : k < code.length := by omega
 rw [U7 code (by simp only [Dl]; omega) k hk]
 have hs : ∀ op : UInt8, ∃ n, ER op = some n ∧ 0 ≤ n ∧ n ≤ 6 := fun op => by
  have := Ni op
  refine ⟨_, by rw [size_eq, ME], by omega, ?_⟩
  unfold Nh
  split <;> omega
 refine ⟨(dec code k code[k]).1, (dec code k code[k]).2, rfl, ?_, hs _⟩
 unfold dec
 split
 ·intro h; cases h
 split
 ·intro h; cases h
 dsimp only
 split
 ·intro h; cases h
 ·intro _
  have hw := Ni code[k]
  refine ⟨?_, fun h => ?_⟩
  ·dsimp only
   rw [Ra (by omega)]; omega
  ·dsimp only at h ⊢
   have h2 := Tk h
   rw [Ra (by omega)]
   have := TT (l := code.drop (k + 1)) h2
   omega
section
variable {M : Ah} {st : Int} {ov : Bool} {s : MS}
theorem Vh {op : UInt8} (h : Hq op = true) : op.toNat ≠ 1 := by
 intro h1
 unfold Hq at h
 rw [h1] at h
 exact absurd h (by decide)
theorem Ws (hM : DZ M) {i : Bs} (h : Inv M st ov s) (hB : 0 ≤ i.B) (hA : i.Op.toNat ≠ 1 → 0 ≤ i.A ∧ i.A ≤ 65535) : CE M st ov (fun _ _ => True) (QL i s) := by
 unfold QL
 refine .ite (fun hm => SX h (hA (Vh hm)).1) fun _ => .ite (fun _ => BW h K8) fun h1 => ?_
 have hA' := hA (by
  rw [show ((i.Op.toNat : Int) == 1) = decide (i.Op.toNat = 1) from Bj _ 1, Aa] at h1
  exact h1)
 have hj : 0 ≤ i.A ∧ i.A ≤ 1000000 := by omega
 exact .ite (fun _ => BW h WT) fun _ => .ite (fun _ => BW h fun _ => (by dsimp only; omega)) fun _ => .ite (fun _ => PE h hj) fun _ => .ite (fun _ => .mb (CZ hM h) fun v s1 hi _ => .ite (fun _ => PE hi hj) fun _ => .ok hi trivial) fun _ =>
  .ite (fun _ => Ul hM h hA'.1) fun _ => .ite (fun _ => Uv hM h) fun _ => .ite (fun _ => Fh h) fun _ => .ite (fun _ => .mb (CZ hM h) fun v s1 hi _ => U2 hi) fun _ => .ite (fun _ => .ok h trivial) fun _ => .ite (fun _ => UD hM h hA'.1 hB) fun _ => .ite (fun _ => Ug hM h) fun _ => Sj hM h
theorem Um (hM : DZ M) (h : Inv M st ov s) : CE M st ov (fun _ _ => True) (Kz s) := by
 obtain ⟨c, r, hc⟩ := h.top
 have hok := h.JJ hc
 obtain ⟨f, hf, hf2⟩ := FA hok.fn.1 hok.fn.2
 have hfs : idx s.m.Funcs c.fn = some f := by rw [h.m]; exact hf
 have hfo := hM.funcs f (YJ hf2)
 unfold Kz
 rw [hc]
 dsimp only
 refine .bind hfs (.mb (CW h) fun _ s1 hi ⟨hs1, hb⟩ => ?_)
 subst hs1
 rw [Aa] at hb
 obtain ⟨i, er, hd, hd2, n, hn, hn0, hn6⟩ := WI hfo.2.2 hok.at_.1 hb
 refine .bind hd (.mb (CW hi) fun _ s2 hi2 ⟨hs2, hb2⟩ => .bind hn ?_)
 subst hs2
 have he : er = 0 := by simpa using hb2
 have hat := hok.at_
 refine Ws hM (h.set hc ⟨hok.fn, ?_, hok.vars, hok.stack, hok.nv, hok.ns⟩) (hd2 he).1 (hd2 he).2
 show 0 ≤ wr (c.at_ + n) ∧ wr (c.at_ + n) ≤ 1000000
 rw [CB (by omega) (by omega)]
 omega
structure Over (M : Ah) (st : Int) (s : MS) : Prop where
 over : s.over = true
 told : s.told.length ≤ 1024
 few : FH s = true
 err : s.h1 ≠ 150
theorem Rb (h : Inv M st ov s) : FH s = true := by
 have h1 := h.nc
 unfold FH
 rw [Ap]
 exact CB (by omega) (by omega)
theorem UC (hM : DZ M) (h : Inv M st false s) (hs : 0 ≤ st ∧ st < 1048576) : ∃ s', JD s = some s' ∧ (Inv M (st + 1) false s' ∨ Over M (st + 1) s') := by
 have e : wr (s.steps + 1) = st + 1 := by rw [h.steps, CB (by omega) (by omega)]
 have hi : Inv M (st + 1) false { s with steps := wr (s.steps + 1) } := ⟨h.m, h.nc, h.ne, h.calls, h.A4, h.room, h.told, e, h.over⟩
 obtain ⟨r, s1, h1, hi1, hq⟩ := Um hM hi
 unfold JD
 rw [h1, YE]
 cases r with
 | ok a => exact ⟨s1, rfl, .inl hi1⟩
 | no e t q => exact ⟨_, rfl, .inr ⟨rfl, hi1.told, Rb (s := s1) hi1, hq⟩⟩
inductive IJ : Nat → MS → MS → Prop
 | zero (s : MS) : IJ 0 s s
 | stop (n : Nat) (s : MS) (h : s.over = true ∨ ¬ s.steps < 1048576) : IJ (n + 1) s s
 | step (n : Nat) (s s1 s2 : MS) (h1 : s.over = false) (h2 : s.steps < 1048576) (h3 : JD s = some s1) (h4 : FH s1 = true) (h5 : IJ n s1 s2) : IJ (n + 1) s s2
theorem LZ : ∀ {n : Nat} {s s' : MS}, IJ n s s' → n < 4611686018427387904 → Nb (n : Int) s = some s'
 | _, _, _, .zero s, _ => by
  unfold Nb
  refine AY ?_
  unfold Rt
  rw [Ac (by simp)]
 | _, _, _, .stop n s h, hn => by
  unfold Nb
  refine AY ?_
  unfold Rt
  have hp : decide (((n + 1 : Nat) : Int) > 0) = true := by rw [Aa]; omega
  dsimp only
  rw [hp, Ab rfl]
  rcases h with h | h
  ·rw [h]; rfl
  ·have : decide (s.steps < 1048576) = false := by simpa using h
   rw [this]
   rcases s.over <;> rfl
 | _, _, _, .step n s s1 s2 h1 h2 h3 h4 h5, hn => by
  have ih := LZ h5 (by omega)
  unfold Nb at ih ⊢
  rw [CN (s' := ((n : Int), s1))]
  ·exact ih
  ·unfold Rt
   have hp : decide (((n + 1 : Nat) : Int) > 0) = true := by rw [Aa]; omega
   have hd : decide (s.steps < 1048576) = true := by simpa using h2
   dsimp only
   rw [hp, Ab rfl, h1, hd]
   have e : wr (((n + 1 : Nat) : Int) - 1) = (n : Int) := by rw [CB (by omega) (by omega)]; omega
   simp only [Bool.not_false, if_true, h3, YE, h4, e]
theorem Lj {s : MS} (h : s.over = true ∨ ¬ s.steps < 1048576) : ∀ n, IJ n s s
 | 0 => .zero s
 | n + 1 => .stop n s h
theorem Pj : ∀ {a b : Nat} {s s1 s2 : MS}, IJ a s s1 → IJ b s1 s2 → IJ (a + b) s s2
 | _, b, _, _, _, .zero s, h2 => by rw [Nat.zero_add]; exact h2
 | _, b, _, _, s2, .stop n s h, h2 => by
  have : s2 = s := by
   cases h2 with
   | zero => rfl
   | stop => rfl
   | step n s s1 s2 k1 k2 => rcases h with h | h; · rw [h] at k1; cases k1
                             ·exact absurd k2 h
  subst this
  exact Lj h _
 | _, b, _, _, _, .step n s s1 s2 h1 h2 h3 h4 h5, h6 => by
  rw [show n + 1 + b = (n + b) + 1 by omega]
  exact .step _ _ _ _ h1 h2 h3 h4 (Pj h5 h6)
theorem NT (hM : DZ M) : ∀ (n : Nat) {st : Int} {s : MS}, Inv M st false s → 0 ≤ st → ∃ s', IJ n s s' ∧ ((∃ st', Inv M st' false s' ∧ st ≤ st' ∧ (st + n < 1048576 → st' = st + n)) ∨ ∃ st', Over M st' s')
 | 0, st, s, h, h0 => ⟨s, .zero s, .inl ⟨st, h, by omega, fun _ => by omega⟩⟩
 | n + 1, st, s, h, h0 => by
  by_cases hs : s.steps < 1048576
  ·have hst := h.steps
   obtain ⟨s1, h1, h2⟩ := UC hM h (by omega)
   rcases h2 with h2 | h2
   ·obtain ⟨s', h3, h4⟩ := NT hM n h2 (by omega)
    refine ⟨s', .step n s s1 s' h.over hs h1 (Rb h2) h3, ?_⟩
    rcases h4 with ⟨st', h5, h6, h7⟩ | h4
    ·exact .inl ⟨st', h5, by omega, fun h8 => by have := h7 (by omega); omega⟩
    ·exact .inr h4
   ·exact ⟨s1, .step n s s1 s1 h.over hs h1 h2.few (Lj (.inl h2.over) n), .inr ⟨_, h2⟩⟩
  ·have hst := h.steps
   exact ⟨s, .stop n s (.inr hs), .inl ⟨st, h, by omega, fun h8 => by omega⟩⟩
end
end Go.Proofs.YtpnacdckamiedaaGreat
namespace Go.Proofs.YtpnacdckamiedaaGreat
open Go Go.RowKit Go.Pv Go.Proofs.Tryz
def EN (f : A3) : Bool := decide (f.Ak < (f.Sig.Ai.length : Int)) || (decide (f.Ak > 16) || decide ((f.Code.length : Int) > 4096))
theorem TW (m : Ah) (h : EZ m) : ∃ r, Ay (K3 m) 0 = some r ∧ ((∃ f ∈ m.Funcs, EN f = true) → r = .inl 1) ∧ ((∀ f ∈ m.Funcs, EN f = false) → r = .inr ()) := by
 have hl := h.fl
 simp only [Dl] at hl
 refine Hr m.Funcs (bad := EN) (body := K3 m) (Pb := fun r : Int ⊕ Unit => r = .inl 1) (fun i hi => ?_) (by unfold K3; rw [Ac (by rw [Aa]; omega)])
 have hb : K3 m (i : Int) = if EN m.Funcs[i] = true then some (.inr (.inl 1)) else some (.inl ((i + 1 : Nat) : Int)) := by
  unfold K3 EN
  rw [Ab (by rw [Aa]; omega), AV hi, YE, Ef (by omega)]
  by_cases h1 : decide (m.Funcs[i].Ak < (m.Funcs[i].Sig.Ai.length : Int)) = true
  ·rw [Ab h1, h1]; rfl
  ·rw [Ac h1, Bool.eq_false_iff.2 h1]
   by_cases h2 : decide (m.Funcs[i].Ak > 16) = true
   ·rw [Ab h2, h2]; rfl
   ·rw [Ac h2, Bool.eq_false_iff.2 h2]; rfl
 split
 ·rename_i hx; rw [Ab hx] at hb; exact ⟨_, hb, rfl⟩
 ·rename_i hx; rw [Ac hx] at hb; exact hb
theorem RE (m : Ah) (h : EZ m) : ∃ r, Ay (Bt m) 0 = some r ∧ ((∃ f ∈ m.Funcs, EN f = true) → r = .inl 1) ∧ ((∀ f ∈ m.Funcs, EN f = false) → r = .inr ()) := by
 have hl := h.fl
 simp only [Dl] at hl
 refine Hr m.Funcs (bad := EN) (body := Bt m) (Pb := fun r : Int ⊕ Unit => r = .inl 1) (fun i hi => ?_) (by unfold Bt; rw [Ac (by rw [Aa]; omega)])
 have hb : Bt m (i : Int) = if EN m.Funcs[i] = true then some (.inr (.inl 1)) else some (.inl ((i + 1 : Nat) : Int)) := by
  unfold Bt EN
  rw [Ab (by rw [Aa]; omega), AV hi, YE, Ef (by omega)]
  by_cases h1 : decide (m.Funcs[i].Ak < (m.Funcs[i].Sig.Ai.length : Int)) = true
  ·rw [Ab h1, h1]; rfl
  ·rw [Ac h1, Bool.eq_false_iff.2 h1]
   by_cases h2 : decide (m.Funcs[i].Ak > 16) = true
   ·rw [Ab h2, h2]; rfl
   ·rw [Ac h2, Bool.eq_false_iff.2 h2]; rfl
 split
 ·rename_i hx; rw [Ab hx] at hb; exact ⟨_, hb, rfl⟩
 ·rename_i hx; rw [Ac hx] at hb; exact hb
def Eu (p : UInt8 × Int) : Bool := !((decide (p.1.toNat = 1) && (decide (-2147483648 ≤ p.2) && decide (p.2 ≤ 2147483647))) || (decide (p.1.toNat = 2) && (decide (p.2 = 0) || decide (p.2 = 1))))
theorem Qq (s : Am) (args : List Int) (h8 : s.Ai.length ≤ 8) : ∃ b, E3 s args = some b ∧ Da s args = some b ∧ (b = true → args.length = s.Ai.length ∧ ∀ p ∈ s.Ai.zip args, Eu p = false) := by
 unfold E3 Da
 by_cases hl : ((args.length : Int) != (s.Ai.length : Int)) = true
 ·rw [Ab hl, Ab hl]
  exact ⟨false, rfl, rfl, fun h => by cases h⟩
 rw [Ac hl, Ac hl]
 have BU : args.length = s.Ai.length := by
  have : (args.length : Int) = (s.Ai.length : Int) := by simpa using hl
  omega
 have hz : (s.Ai.zip args).length = s.Ai.length := by rw [List.length_zip]; omega
 have hzi : ∀ i (h : i < (s.Ai.zip args).length), (s.Ai.zip args)[i] = (s.Ai[i]'(by omega), args[i]'(by omega)) := fun i h => List.getElem_zip
 have k1 : ∃ r, Ay (Ca s args) 0 = some r ∧ ((∃ p ∈ s.Ai.zip args, Eu p = true) → r = .inl false) ∧ ((∀ p ∈ s.Ai.zip args, Eu p = false) → r = .inr ()) := by
  refine Hr (s.Ai.zip args) (bad := Eu) (body := Ca s args) (Pb := fun r : Bool ⊕ Unit => r = .inl false) (fun i hi => ?_) (by unfold Ca; rw [hz, Ac (by rw [Aa]; omega)])
  have hb : Ca s args (i : Int) = if Eu (s.Ai.zip args)[i] = true then some (.inr (.inl false)) else some (.inl ((i + 1 : Nat) : Int)) := by
   unfold Ca Eu
   rw [hzi i hi, Ab (by rw [Aa]; omega), AV (by omega), YE, AV (by omega), YE, Ef (by omega)]
   generalize s.Ai[i]'(by omega) = t
   generalize args[i]'(by omega) = a
   dsimp only
   rw [show ((t.toNat : Int) == 1) = decide (t.toNat = 1) from Bj _ 1, show ((t.toNat : Int) == 2) = decide (t.toNat = 2) from Bj _ 2]
   by_cases h1 : t.toNat = 1
   ·have hr : (a == wr (IntKind.i32.wrap a)) = (decide (-2147483648 ≤ a) && decide (a ≤ 2147483647)) := by
     rw [Bool.eq_iff_iff, Ap, YL, Aa, Aa]
     have hw := IntKind.wrap_i32 a
     have : wr (IntKind.i32.wrap a) = IntKind.i32.wrap a := by rw [CB] <;> omega
     rw [this, hw]
     omega
    rw [hr]
    rcases (decide (-2147483648 ≤ a) && decide (a ≤ 2147483647)) with _ | _ <;> simp [h1]
   ·by_cases h2 : t.toNat = 2
    ·by_cases a0 : a = 0
     ·simp [h1, h2, a0]
     ·by_cases a1 : a = 1
      ·simp [h1, h2, a1]
      ·simp [h1, h2, a0, a1]
    ·simp [h1, h2]
  split
  ·rename_i hx; rw [Ab hx] at hb; exact ⟨_, hb, rfl⟩
  ·rename_i hx; rw [Ac hx] at hb; exact hb
 have k2 : ∃ r, Ay (B0 s args) 0 = some r ∧ ((∃ p ∈ s.Ai.zip args, Eu p = true) → r = .inl false) ∧ ((∀ p ∈ s.Ai.zip args, Eu p = false) → r = .inr ()) := by
  refine Hr (s.Ai.zip args) (bad := Eu) (body := B0 s args) (Pb := fun r : Bool ⊕ Unit => r = .inl false) (fun i hi => ?_) (by unfold B0; rw [hz, Ac (by rw [Aa]; omega)])
  have hb : B0 s args (i : Int) = if Eu (s.Ai.zip args)[i] = true then some (.inr (.inl false)) else some (.inl ((i + 1 : Nat) : Int)) := by
   unfold B0 Eu
   rw [hzi i hi, Ab (by rw [Aa]; omega), AV (by omega), YE, AV (by omega), YE, Ef (by omega)]
   generalize s.Ai[i]'(by omega) = t
   generalize args[i]'(by omega) = a
   dsimp only
   rw [show ((t.toNat : Int) == 1) = decide (t.toNat = 1) from Bj _ 1, show ((t.toNat : Int) == 2) = decide (t.toNat = 2) from Bj _ 2]
   by_cases h1 : t.toNat = 1
   ·by_cases c1 : a < -2147483648
    ·have : ¬ (-2147483648 ≤ a) := by omega
     simp [h1, c1, this]
    ·have c1' : -2147483648 ≤ a := by omega
     by_cases c2 : a > 2147483647
     ·have : ¬ (a ≤ 2147483647) := by omega
      simp [h1, c1, c2, this]
     ·have c2' : a ≤ 2147483647 := by omega
      simp [h1, c1, c2, c1', c2']
   ·by_cases h2 : t.toNat = 2
    ·by_cases a0 : a = 0
     ·simp [h1, h2, a0]
     ·by_cases a1 : a = 1
      ·simp [h1, h2, a1]
      ·simp [h1, h2, a0, a1]
    ·simp [h1, h2]
  split
  ·rename_i hx; rw [Ab hx] at hb; exact ⟨_, hb, rfl⟩
  ·rename_i hx; rw [Ac hx] at hb; exact hb
 obtain ⟨r1, e1, b1, g1⟩ := k1
 obtain ⟨r2, e2, b2, g2⟩ := k2
 rw [e1, e2, YE, YE]
 by_cases hbad : ∃ p ∈ s.Ai.zip args, Eu p = true
 ·rw [b1 hbad, b2 hbad]
  exact ⟨false, rfl, rfl, fun h => by cases h⟩
 ·have hall : ∀ p ∈ s.Ai.zip args, Eu p = false := fun p hp => by
   rcases hx : Eu p with _ | _
   ·rfl
   ·exact absurd ⟨p, hp, hx⟩ hbad
  rw [g1 hall, g2 hall]
  exact ⟨true, rfl, rfl, fun _ => ⟨BU, hall⟩⟩
theorem Uo (f : A3) (args : List Int) (BU : args.length = f.Sig.Ai.length) (h8 : f.Sig.Ai.length ≤ 8) (hall : ∀ p ∈ f.Sig.Ai.zip args, Eu p = false) : ∃ l, Ay (MG f args) ([], 0) = some l ∧ ∀ v ∈ l, v.kind ≠ 3 := by
 have hz : (f.Sig.Ai.zip args).length = f.Sig.Ai.length := by rw [List.length_zip]; omega
 refine ⟨(f.Sig.Ai.zip args).map fun p => (⟨if p.1.toNat = 1 then 1 else if p.1.toNat = 2 then 2 else 3, p.2⟩ : MV), EB (f.Sig.Ai.zip args) _ (fun i hi acc ha => ?_) (fun acc => by unfold MG; rw [hz, Ac (by rw [Aa]; dsimp only; omega)]), fun v hv => ?_⟩
 ·have hg : (f.Sig.Ai.zip args)[i] = (f.Sig.Ai[i]'(by omega), args[i]'(by omega)) := List.getElem_zip
  unfold MG
  dsimp only
  rw [hg, Ab (by rw [Aa]; omega), AV (by omega), YE]
  have hk : Ds (f.Sig.Ai[i]'(by omega)) = some (if (f.Sig.Ai[i]'(by omega)).toNat = 1 then 1 else if (f.Sig.Ai[i]'(by omega)).toNat = 2 then 2 else 3) := by
   unfold Ds
   generalize f.Sig.Ai[i]'(by omega) = t
   rw [show ((t.toNat : Int) == 1) = decide (t.toNat = 1) from Bj _ 1, show ((t.toNat : Int) == 2) = decide (t.toNat = 2) from Bj _ 2]
   by_cases h1 : t.toNat = 1
   ·simp [h1]
   ·by_cases h2 : t.toNat = 2 <;> simp [h1, h2]
  rw [hk, YE, AV (by omega), YE, Cg (by simp; omega), YE, Ef (by omega)]
 ·obtain ⟨p, hp, rfl⟩ := List.mem_map.1 hv
  have := hall p hp
  unfold Eu at this
  by_cases h1 : p.1.toNat = 1
  ·simp [h1]
  ·by_cases h2 : p.1.toNat = 2
   ·simp [h2]
   ·simp [h1, h2] at this
theorem Qm (f : A3) (args : List Int) (BU : args.length = f.Sig.Ai.length) (h8 : f.Sig.Ai.length ≤ 8) : ∃ l, Ay (Jg f args) ([], 0) = some l := by
 have hz : (f.Sig.Ai.zip args).length = f.Sig.Ai.length := by rw [List.length_zip]; omega
 refine ⟨(f.Sig.Ai.zip args).map fun p => (⟨if ((p.1.toNat : Int) == 2) = true then 2 else 1, p.2⟩ : MV), EB (f.Sig.Ai.zip args) _ (fun i hi acc ha => ?_) (fun acc => by unfold Jg; rw [hz, Ac (by rw [Aa]; dsimp only; omega)])⟩
 have hg : (f.Sig.Ai.zip args)[i] = (f.Sig.Ai[i]'(by omega), args[i]'(by omega)) := List.getElem_zip
 unfold Jg
 dsimp only
 rw [hg, Ab (by rw [Aa]; omega), AV (by omega), YE, AV (by omega), YE, Cg (by simp; omega), YE, Ef (by omega)]
theorem SB (m : Ah) (h : EZ m) (entry room : Int) (args : List Int) : ∃ x q, I7 m entry args room = some x ∧ Jx m entry args room = some q ∧
  ((x.1 = none ∧ q.1 = none ∧ x.2 = q.2 ∧ (q.2 != 0) = true) ∨ ∃ S, x.1 = some S ∧ q.1 ≠ none ∧ q.2 = 0 ∧ DZ (bare m) ∧ Inv (bare m) 0 false S) := by
 obtain ⟨mx, hm, hmE⟩ := Xv (Gt m 0) h.tab
 obtain ⟨cb, hcb, hcE⟩ := Vs (Gt m 0) h.tab
 have hen := Vt m h 0
 have hf0 : ∀ x : Int, Du m entry args room = some x → (x != 0) = true → Jx m entry args room = some (none, x) := fun x hx hn => by
  unfold Jx
  rw [hx, YE, Ab hn]
 have hfault : Du m entry args room = (DN (Gt m 0)).bind fun x94 => if (!x94) = true then (some 1) else (if decide (room < 0) = true then (some 1) else (if decide (room > 4096) = true then (some 1) else (((Ay (Bt m) 0 : Option (Int ⊕ Unit))).bind fun o3631 => (match o3631 with | .inl p4498 => (some p4498) | .inr p3634 => (if decide (entry < 0) = true then (some 71) else (if decide (entry ≥ (m.Funcs.length : Int)) = true then (some 71) else ((idx m.Funcs entry).bind fun x4462 => (Da (⟨x4462.Sig.Ai, x4462.Sig.Result⟩ : Am) args).bind fun x4475 => if (!x4475) = true then (some 151) else (some 0)))))))) := by
  unfold Du
  rw [show (⟨m.Name, m.Classes, m.Funcs, m.Cf⟩ : Ah) = m from rfl, Og m h, YE]
  rfl
 rw [hcb, YE] at hfault
 unfold I7
 cases cb with
 | false =>
  have hne : ¬ Nm (Gt m 0) := fun he => by have := hcE.2 he; cases this
  rw [Ab (by rfl)] at hfault
  refine ⟨(none, 1), (none, 1), ?_, hf0 1 hfault rfl, .inl ⟨rfl, rfl, rfl, rfl⟩⟩
  rw [hen, YE]
  by_cases hl : (0 : Int) ≤ 0 ∧ 0 < (m.Funcs.length : Int)
  ·rw [Ab hl]
   have hmx : (mx != 0) = true := by
    rw [B9]; exact fun h0 => hne (hmE.1 h0)
   dsimp only
   rw [Ac (by simp)]
   by_cases r0 : decide (room < 0) = true
   ·rw [Ab r0]; rfl
   ·rw [Ac r0]
    by_cases r1 : decide (room > 4096) = true
    ·rw [Ab r1]; rfl
    ·rw [Ac r1, hm, YE, YE, Ab hmx]
  ·rw [Ac hl]; rfl
 | true =>
  have hE := hcE.1 rfl
  have hpos : (0 : Int) ≤ 0 ∧ 0 < (m.Funcs.length : Int) := by
   have := hE.fn
   have e : (Gt m 0).AO.length = m.Funcs.length := by unfold Gt; simp
   rw [e] at this
   exact this
  have hm0 : mx = 0 := hmE.2 hE
  subst hm0
  rw [Ac (by simp)] at hfault
  rw [hen, YE, Ab hpos]
  dsimp only
  rw [Ac (by simp)]
  by_cases r0 : decide (room < 0) = true
  ·rw [Ab r0] at hfault ⊢
   exact ⟨(none, 1), (none, 1), rfl, hf0 1 hfault rfl, .inl ⟨rfl, rfl, rfl, rfl⟩⟩
  rw [Ac r0] at hfault ⊢
  by_cases r1 : decide (room > 4096) = true
  ·rw [Ab r1] at hfault ⊢
   exact ⟨(none, 1), (none, 1), rfl, hf0 1 hfault rfl, .inl ⟨rfl, rfl, rfl, rfl⟩⟩
  rw [Ac r1] at hfault ⊢
  rw [hm, YE, YE, Ac (by simp)]
  obtain ⟨ra, ea, ba, ga⟩ := TW m h
  obtain ⟨rb, eb, bb, gb⟩ := RE m h
  rw [eb, YE] at hfault
  rw [ea, YE]
  by_cases hbad : ∃ f ∈ m.Funcs, EN f = true
  ·rw [bb hbad] at hfault
   rw [ba hbad]
   exact ⟨(none, 1), (none, 1), rfl, hf0 1 hfault rfl, .inl ⟨rfl, rfl, rfl, rfl⟩⟩
  have hall : ∀ f ∈ m.Funcs, EN f = false := fun f hf => by
   rcases hx : EN f with _ | _
   ·rfl
   ·exact absurd ⟨f, hf, hx⟩ hbad
  rw [gb hall] at hfault
  rw [ga hall]
  dsimp only at hfault ⊢
  by_cases n0 : decide (entry < 0) = true
  ·rw [Ab n0] at hfault ⊢
   exact ⟨(none, 71), (none, 71), rfl, hf0 71 hfault rfl, .inl ⟨rfl, rfl, rfl, rfl⟩⟩
  rw [Ac n0] at hfault ⊢
  by_cases n1 : decide (entry ≥ (m.Funcs.length : Int)) = true
  ·rw [Ab n1] at hfault
   rw [YE, Ab n1]
   exact ⟨(none, 71), (none, 71), rfl, hf0 71 hfault rfl, .inl ⟨rfl, rfl, rfl, rfl⟩⟩
  rw [Ac n1] at hfault
  rw [YE, Ac n1]
  rw [Aa] at n0 n1 r0 r1
  obtain ⟨f, hf, hf2⟩ := FA (l := m.Funcs) (i := entry) (by omega) (by omega)
  have hfm := YJ hf2
  have hsg : f.Sig ∈ (Gt m 0).AO := List.mem_map_of_mem hfm
  have h8 := (hE.sigs _ hsg).1
  obtain ⟨b, hb1, hb2, hb3⟩ := Qq f.Sig args h8
  rw [hf, YE, show (⟨f.Sig.Ai, f.Sig.Result⟩ : Am) = f.Sig from rfl, hb2, YE] at hfault
  rw [hf, YE, hb1, YE]
  cases b with
  | false =>
   rw [Ab (by rfl)] at hfault ⊢
   exact ⟨(none, 151), (none, 151), rfl, hf0 151 hfault rfl, .inl ⟨rfl, rfl, rfl, rfl⟩⟩
  | true =>
  rw [Ac (by simp)] at hfault ⊢
  obtain ⟨BU, hargs⟩ := hb3 rfl
  have hM : DZ (bare m) := ⟨hE, fun g hg => by
   have := hall g hg
   unfold EN at this
   simp only [Bool.or_eq_false_iff, decide_eq_false_iff_not] at this
   omega⟩
  have hfo := hM.funcs f hfm
  obtain ⟨l, hl, hl2⟩ := Uo f args BU h8 hargs
  obtain ⟨l2, hr2⟩ := Qm f args BU h8
  rw [RF m h, YE, show (bare m).Classes = m.Classes from rfl, Q2 m.Classes room h.tab hE.ok (by omega) (by omega), YE]
  dsimp only
  rw [Ac (by simp), Ab rfl, hl, YE]
  have hS0 : ∀ s', Ep entry l (HW (bare m) room) = some s' → Inv (bare m) 0 false s' := fun s' hs' => by
   unfold Ep at hs'
   have hfb : idx (HW (bare m) room).m.Funcs entry = some f := hf
   rw [hfb, YE, LS (by omega) (by omega) (by omega), YE, Ab (by simp [HW])] at hs'
   cases hs'
   refine ⟨rfl, by simp [HW], by simp, fun c hc => ?_, (fun o ho => by cases ho), ⟨Int.le_refl 0, by show 0 ≤ room; omega, by show room ≤ 4096; omega, Int.le_refl 0⟩, by simp [HW], rfl, rfl⟩
   have hc' : c = ⟨entry, 0, FC (List.replicate f.Ak.toNat ⟨0, 0⟩) l, []⟩ := by simpa [HW] using hc
   subst hc'
   refine ⟨⟨by show 0 ≤ entry; omega, by show entry < (m.Funcs.length : Int); omega⟩, ⟨Int.le_refl 0, by show (0 : Int) ≤ 1000000; omega⟩, fun v hv => ?_, fun v hv => (by cases hv), ?_, by simp⟩
   ·unfold FC at hv
    rcases List.mem_append.1 hv with hv | hv
    ·exact fun h3 => absurd h3 (hl2 v (List.mem_of_mem_take hv))
    ·have := List.eq_of_mem_replicate (List.mem_of_mem_drop hv)
     subst this
     exact Fj (by decide)
   ·unfold FC
    simp only [YF, List.length_take, List.length_replicate, List.length_drop]
    omega
  have hent : ∃ s', Ep entry l (HW (bare m) room) = some s' := by
   unfold Ep
   have hfb : idx (HW (bare m) room).m.Funcs entry = some f := hf
   rw [hfb, YE, LS (by omega) (by omega) (by omega), YE, Ab (by simp [HW])]
   exact ⟨_, rfl⟩
  obtain ⟨s', hs'⟩ := hent
  have hrent : ∃ s2, KX entry l2 (SV m (Gt m 0) room) = some s2 := by
   unfold KX
   have hfb : idx (SV m (Gt m 0) room).m.Funcs entry = some f := hf
   rw [hfb, YE, LS (by omega) (by omega) (by omega), YE, Ab (by simp [SV])]
   exact ⟨_, rfl⟩
  obtain ⟨s2, hs2⟩ := hrent
  rw [hs', YE]
  refine ⟨_, (some (s2, Gt m 0), 0), rfl, ?_, .inr ⟨s', rfl, by simp, rfl, hM, hS0 s' hs'⟩⟩
  unfold Jx
  rw [hfault, YE, Ac (by decide), Og m h, YE, hf, YE, hr2, YE, hs2, YE]
end Go.Proofs.YtpnacdckamiedaaGreat
namespace Go.Proofs.YtpnacdckamiedaaGreat
open Go Go.RowKit Go.Pv Go.Proofs.Tryz
theorem QE (a : Int) : ∃ n : Nat, JA a = (n : Int) ∧ n < 65536 := by
 have h1 : IntKind.u64.wrap a = a % 18446744073709551616 := by simp [IntKind.wrap, IntKind.signed, IntKind.bits]
 have h2 : 0 ≤ a % 18446744073709551616 := Int.emod_nonneg _ (by decide)
 have h3 : (a % 18446744073709551616).tmod 65536 = (a % 18446744073709551616) % 65536 := Int.tmod_eq_emod_of_nonneg h2
 have h4 : 0 ≤ (a % 18446744073709551616) % 65536 := Int.emod_nonneg _ (by decide)
 have h5 : (a % 18446744073709551616) % 65536 < 65536 := Int.emod_lt_of_pos _ (by decide)
 refine ⟨((a % 18446744073709551616) % 65536).toNat, ?_, by omega⟩
 unfold JA
 rw [h1, h3]
 have : wr ((a % 18446744073709551616) % 65536) = (a % 18446744073709551616) % 65536 := CB (by omega) (by omega)
 have h6 : IntKind.i64.wrap ((a % 18446744073709551616) % 65536) = (a % 18446744073709551616) % 65536 := this
 rw [h6]
 omega
theorem VC (l : List Int) (h : l.length ≤ Dl) : D4 l l = some true := by
 simp only [Dl] at h
 unfold D4
 rw [Ac (by simp), SJ l (r := .inr ()) (fun i hi => by
  unfold Ch
  rw [Ab (by simpa using hi), AV hi, YE, YE, Ac (by simp), Ef (by omega)]) (by unfold Ch; simp)]
 rfl
theorem Ur (o : CJ) (h : o.Told.length ≤ Dl) : CC o o = some true := by
 unfold CC
 simp [VC _ h]
theorem V7 {s : MS} (h : s.told.length ≤ 1024) : ∃ o, M4 s = some o ∧ o.Told.length ≤ 1024 ∧ o.Steps = s.steps ∧ (s.over = true → o.Err = s.h1) := by
 unfold M4
 rw [Cg (by simp; omega), YE]
 refine ⟨_, rfl, ?_⟩
 rcases s.over with _ | _ <;> simp [h]
theorem MJ (a0 : Ah) (a1 : BJ) (a2 a3 : Int) (h : EZ a0) (ha : a1.LD.length ≤ Dl) : BZ a0 a1 a2 a3 = some true := by
 unfold BZ
 refine Ab ?_
 obtain ⟨x, q, hx, hq, hc⟩ := SB a0 h a1.Entry a1.Room a1.LD
 refine ⟨a0, a1.LD, x, q, RB a0 h, RQ _ ha, hx, hq, ?_⟩
 rcases hc with hc | ⟨S, hx1, hq1, hq2, hM, hI⟩
 ·exact .inl hc
 right
 obtain ⟨A, hA, hA2⟩ := QE a2
 obtain ⟨B, hB, hB2⟩ := QE a3
 have hAB : wr (JA a2 + JA a3) = ((A + B : Nat) : Int) := by rw [hA, hB, CB (by omega) (by omega)]; omega
 have key : ∃ S1 S2, IJ A S S1 ∧ IJ B S1 S2 ∧ (Inv (bare a0) ((A + B : Nat) : Int) false S2 ∨ ∃ st, Over (bare a0) st S2) := by
  obtain ⟨S1, h1, h2⟩ := NT hM A hI (by omega)
  rcases h2 with ⟨st, h2, h3, h4⟩ | ⟨st, h2⟩
  ·have hst : st = (A : Int) := by have := h4 (by omega); omega
   subst hst
   obtain ⟨S2, h5, h6⟩ := NT hM B h2 (by omega)
   rcases h6 with ⟨st, h6, h7, h8⟩ | ⟨st, h6⟩
   ·have hst : st = ((A + B : Nat) : Int) := by have := h8 (by omega); omega
    subst hst
    exact ⟨S1, S2, h1, h5, .inl h6⟩
   ·exact ⟨S1, S2, h1, h5, .inr ⟨st, h6⟩⟩
  ·exact ⟨S1, S1, h1, Lj (.inl h2.over) B, .inr ⟨st, h2⟩⟩
 obtain ⟨S1, S2, r1, r2, Jn⟩ := key
 have r3 := Pj r1 r2
 have hfin : S2.told.length ≤ 1024 ∧ (∃ p, Js S2 = some p) ∧ ((S2.over = false ∧ S2.steps = ((A + B : Nat) : Int)) ∨ (S2.over = true ∧ S2.h1 ≠ 150)) := by
  rcases Jn with hi | ⟨st, ho⟩
  ·obtain ⟨c, r, hc⟩ := hi.top
   refine ⟨hi.told, ⟨(c.fn, c.at_, (S2.calls.length : Int)), ?_⟩, .inl ⟨hi.over, hi.steps⟩⟩
   unfold Js
   rw [Ac (by rw [hi.over]; simp), hc]
  ·refine ⟨ho.told, ⟨(0, 0, 0), ?_⟩, .inr ⟨ho.over, ho.err⟩⟩
   unfold Js
   rw [Ab ho.over]
 obtain ⟨ht, ⟨p, hp⟩, hst⟩ := hfin
 obtain ⟨o, ho, ho1, Hh, UN⟩ := V7 ht
 refine ⟨S, S1, S2, p, o, hx1, hq1, hq2, by rw [hA]; exact LZ r1 (by omega), by rw [hB]; exact LZ r2 (by omega), by rw [hAB]; exact LZ r3 (by omega), hp, ho, fun he => ?_, Ur o (by simp only [Dl]; omega), ?_, ?_, ?_⟩
 ·rw [hAB]
  rcases hst with ⟨_, hs⟩ | ⟨hov, hh⟩
  ·rw [Hh, hs]; simp
  ·rw [UN hov, Ap] at he
   exact absurd he hh
 ·rw [hA, decide_eq_false_iff_not]; omega
 ·rw [hB, decide_eq_false_iff_not]; omega
 ·rw [hAB, decide_eq_false_iff_not]; omega
end Go.Proofs.YtpnacdckamiedaaGreat
