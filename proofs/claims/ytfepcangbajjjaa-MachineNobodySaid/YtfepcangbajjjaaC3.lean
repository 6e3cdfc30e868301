/- The walk of proviso/provisolaw17.MachineNobody. -/
import Derived.Test.YtfepcangbajjjaaFx
import Derived.Test.YtfepcangbajjjaaDf
import Derived.Test.YtfepcangbajjjaaC4np
import Derived.Test.YtfepcangbajjjaaC4zp
import Derived.Test.YtfepcangbajjjaaC5n
import Derived.Test.YtfepcangbajjjaaC5z
import Derived.Test.YtfepcangbajjjaaC6
import Derived.Test.YtfepcangbajjjaaC7n
import Derived.Test.YtfepcangbajjjaaC7z
set_option linter.unusedVariables false
set_option linter.unusedSimpArgs false
namespace Go.Proofs.Ytfepcangbajjjaa
open Go Go.RowKit Go.Pv
theorem provisolaw17_MachineNobody_c {w : World} {a0 : Int} {r : Bool}  (H : provisolaw17_MachineNobody a0 = some r) :
    Calls Try.prog 3 #[.int .i64 a0] w (Ret fun u_ w_ => u_ = .bool r ∧ SL w [] w_ []) := by
  have s0 : SL w [] w [] := SL.init0 w
  refine call_enter Try.func3 rfl Try.ntmps3 (Nat.le_of_ble_eq_true rfl) (args := [.int .i64 a0]) fun q0 F0 => ?_
  unfold provisolaw17_MachineNobody at H
  refine wp_seq ?_
  refine wp_reg ?_
  refine st_pr F0 (PR.op (ex_asg rfl) <| PR.nil) fun q3 F4 => ?_
  refine st_end ?_
  refine then_n ?_
  refine wp_seq ?_
  refine wp_seq ?_
  refine wp_reg ?_
  refine st_pr F4 (PR.op (ex_build (vs := []) Fx.zero25 Fx.pl25 rfl (cs := [.pointer none]) (rfl)) <| PR.nil) fun q1169 F1170 => ?_
  refine st_box F1170 s0 rfl rfl rfl fun g1171 w1172 q1173 F1174 s1175 => ?_
  refine st_bsliceb (parts := [(0, .const (.pointer none)), (1, .tmp 11)]) (vs := [.pointer none, .pointer (some ⟨g1171, 0, none⟩)]) F1174 s1175 Fx.sl26 rfl (by decide) rfl rfl rfl (one_cells_all (cells1_cons rfl (cells1_cons rfl cells1_nil))) rfl fun g1177 w1178 q1179 F1180 s1181 => ?_
  refine st_pr F1180 (PR.op (ex_len rfl Try.underlying26 ⟨_, _, rfl⟩) <| PR.op (ex_move rfl) <| PR.nil) fun q1183 F1184 => ?_
  refine st_end ?_
  refine then_n ?_
  refine wp_block ?_
  refine wp_loop_rounds 3 ?_
  refine rounds_step ?_
  refine wp_seq ?_
  refine wp_reg ?_
  refine st_pr F1184 (PR.op (ex_lt rfl rfl) <| PR.nil) fun q1187 F1188 => ?_
  refine st_end ?_
  refine then_n ?_
  refine wp_seq ?_
  refine wp_if_t F1188 rfl ?_
  refine wp_skip ?_
  refine then_n ?_
  refine wp_seq ?_
  refine wp_block ?_
  refine wp_seq ?_
  refine wp_reg ?_
  refine st_pr F1188 (PR.op (ex_ixlit Fx.sl26 rfl rfl (by decide)) <| PR.op (ex_ld Fx.nag22 rfl (s1181.blk_cell (.head _) rfl)) <| PR.op (ex_asg rfl) <| PR.nil) fun q1451 F1452 => ?_
  refine st_end ?_
  refine then_n ?_
  refine wp_seq ?_
  refine wp_reg ?_
  obtain ⟨x1466, hx1467, H⟩ := bind_ok H
  refine st_pr F1452 (PR.op (ex_move rfl) <| PR.op (ex_move rfl) <| PR.nil) fun q1468 F1469 => ?_
  refine st_call (args := [.tmp 19, .tmp 20]) F1469 Fx.fn4 rfl (machine_Machine_Go_np_c (a1 := a0)   hx1467) rfl fun v1470 w1471 q1472 hS1474 F1473 => ?_
  obtain ⟨rfl, hq1476⟩ := hS1474
  have s1475 := s1181.add hq1476
  refine st_pr F1473 (PR.op (ex_move rfl) <| PR.op (ex_extract (v := .bool x1466.1) rfl rfl) <| PR.op (ex_extract (v := .int .i64 x1466.2) rfl rfl) <| PR.op (ex_asg rfl) <| PR.op (ex_asg rfl) <| PR.nil) fun q1477 F1478 => ?_
  refine st_end ?_
  refine then_n ?_
  refine wp_seq ?_
  refine wp_reg ?_
  obtain ⟨x1492, hx1493, H⟩ := bind_ok H
  refine st_pr F1478 (PR.op (ex_move rfl) <| PR.nil) fun q1494 F1495 => ?_
  refine st_call (args := [.tmp 25]) F1495 Fx.fn5 rfl (machine_Machine_Where_n_c    hx1493) rfl fun v1496 w1497 q1498 hS1500 F1499 => ?_
  obtain ⟨rfl, hq1502⟩ := hS1500
  have s1501 := s1475.add hq1502
  refine st_pr F1499 (PR.op (ex_move rfl) <| PR.op (ex_extract (v := .int .i64 x1492.1) rfl rfl) <| PR.op (ex_extract (v := .int .i64 x1492.2.1) rfl rfl) <| PR.op (ex_extract (v := .int .i64 x1492.2.2) rfl rfl) <| PR.op (ex_asg rfl) <| PR.op (ex_asg rfl) <| PR.op (ex_asg rfl) <| PR.nil) fun q1503 F1504 => ?_
  refine st_end ?_
  refine then_n ?_
  refine wp_seq ?_
  refine wp_reg ?_
  refine st_pr F1504 (PR.op (ex_move rfl) <| PR.op (ex_move rfl) <| PR.nil) fun q1505 F1506 => ?_
  refine bool_split x1466.1 (fun hb1507 => ?_) (fun hb1507 => ?_)
  · replace H := ite_t hb1507 H
    refine st_gskip F1506 rfl rfl (look_b rfl hb1507) Bool.noConfusion rfl rfl fun q1508 F1509 => ?_
    refine st_gskip F1509 rfl rfl (look_b rfl hb1507) Bool.noConfusion rfl rfl fun q1510 F1511 => ?_
    refine st_pr F1511 (PR.op (ex_pick_t (ev_b rfl hb1507) rfl) <| PR.op (ex_move rfl) <| PR.nil) fun q1512 F1513 => ?_
    refine st_gskip F1513 rfl rfl rfl Bool.noConfusion rfl rfl fun q1514 F1515 => ?_
    refine st_gskip F1515 rfl rfl rfl Bool.noConfusion rfl rfl fun q1516 F1517 => ?_
    refine st_pr F1517 (PR.op (ex_pick_t rfl rfl) <| PR.op (ex_move rfl) <| PR.nil) fun q1518 F1519 => ?_
    refine st_gskip F1519 rfl rfl rfl Bool.noConfusion rfl rfl fun q1520 F1521 => ?_
    refine st_gskip F1521 rfl rfl rfl Bool.noConfusion rfl rfl fun q1522 F1523 => ?_
    refine st_pr F1523 (PR.op (ex_pick_t rfl rfl) <| PR.op (ex_move rfl) <| PR.nil) fun q1524 F1525 => ?_
    refine st_gskip F1525 rfl rfl rfl Bool.noConfusion rfl rfl fun q1526 F1527 => ?_
    refine st_gskip F1527 rfl rfl rfl Bool.noConfusion rfl rfl fun q1528 F1529 => ?_
    refine st_pr F1529 (PR.op (ex_pick_t rfl rfl) <| PR.op (ex_move rfl) <| PR.nil) fun q1530 F1531 => ?_
    refine st_gskip F1531 rfl rfl rfl Bool.noConfusion rfl rfl fun q1532 F1533 => ?_
    refine st_gskip F1533 rfl rfl rfl Bool.noConfusion rfl rfl fun q1534 F1535 => ?_
    refine st_gskip F1535 rfl rfl rfl Bool.noConfusion rfl rfl fun q1536 F1537 => ?_
    refine st_gskip F1537 rfl rfl rfl Bool.noConfusion rfl rfl fun q1538 F1539 => ?_
    refine st_gskip F1539 rfl rfl rfl Bool.noConfusion rfl rfl fun q1540 F1541 => ?_
    refine st_pr F1541 (PR.op (ex_pick_t rfl rfl) <| PR.nil) fun q1542 F1543 => ?_
    refine st_end ?_
    refine then_n ?_
    refine wp_if_t F1543 rfl ?_
    refine wp_seq ?_
    refine wp_reg ?_
    refine st_pr F1543 (PR.op (ex_asg rfl) <| PR.nil) fun q1546 F1547 => ?_
    refine st_end ?_
    refine then_n ?_
    obtain rfl := some_ok H
    refine wp_ret ?_
    refine blk_r <| then_r <| then_r <| blk_r <| then_r ?_
    refine ret_gen (rs := [.tmp 2]) (vs := [.bool false]) F1547 (by rfl) ⟨_, _, rfl, RV.tmp rfl, rfl⟩ ⟨_, rfl, ⟨rfl, s1501.drop.drop⟩⟩
  · replace H := ite_f hb1507 H
    refine st_gop F1506 rfl rfl (look_b rfl hb1507) (ex_move rfl) rfl rfl fun q1548 F1549 => ?_
    refine st_gop F1549 rfl rfl (look_b rfl hb1507) (ex_ne rfl rfl) rfl rfl fun q1550 F1551 => ?_
    refine st_pr F1551 (PR.op (ex_pick_f (ev_b rfl hb1507) rfl) <| PR.op (ex_move rfl) <| PR.nil) fun q1552 F1553 => ?_
    refine bool_split (x1466.2 != 8) (fun hb1554 => ?_) (fun hb1554 => ?_)
    · replace H := ite_t hb1554 H
      refine st_gskip F1553 rfl rfl (look_b rfl hb1554) Bool.noConfusion rfl rfl fun q1555 F1556 => ?_
      refine st_gskip F1556 rfl rfl (look_b rfl hb1554) Bool.noConfusion rfl rfl fun q1557 F1558 => ?_
      refine st_pr F1558 (PR.op (ex_pick_t (ev_b rfl hb1554) rfl) <| PR.op (ex_move rfl) <| PR.nil) fun q1559 F1560 => ?_
      refine st_gskip F1560 rfl rfl rfl Bool.noConfusion rfl rfl fun q1561 F1562 => ?_
      refine st_gskip F1562 rfl rfl rfl Bool.noConfusion rfl rfl fun q1563 F1564 => ?_
      refine st_pr F1564 (PR.op (ex_pick_t rfl rfl) <| PR.op (ex_move rfl) <| PR.nil) fun q1565 F1566 => ?_
      refine st_gskip F1566 rfl rfl rfl Bool.noConfusion rfl rfl fun q1567 F1568 => ?_
      refine st_gskip F1568 rfl rfl rfl Bool.noConfusion rfl rfl fun q1569 F1570 => ?_
      refine st_pr F1570 (PR.op (ex_pick_t rfl rfl) <| PR.op (ex_move rfl) <| PR.nil) fun q1571 F1572 => ?_
      refine st_gskip F1572 rfl rfl rfl Bool.noConfusion rfl rfl fun q1573 F1574 => ?_
      refine st_gskip F1574 rfl rfl rfl Bool.noConfusion rfl rfl fun q1575 F1576 => ?_
      refine st_gskip F1576 rfl rfl rfl Bool.noConfusion rfl rfl fun q1577 F1578 => ?_
      refine st_gskip F1578 rfl rfl rfl Bool.noConfusion rfl rfl fun q1579 F1580 => ?_
      refine st_gskip F1580 rfl rfl rfl Bool.noConfusion rfl rfl fun q1581 F1582 => ?_
      refine st_pr F1582 (PR.op (ex_pick_t rfl rfl) <| PR.nil) fun q1583 F1584 => ?_
      refine st_end ?_
      refine then_n ?_
      refine wp_if_t F1584 rfl ?_
      refine wp_seq ?_
      refine wp_reg ?_
      refine st_pr F1584 (PR.op (ex_asg rfl) <| PR.nil) fun q1587 F1588 => ?_
      refine st_end ?_
      refine then_n ?_
      obtain rfl := some_ok H
      refine wp_ret ?_
      refine blk_r <| then_r <| then_r <| blk_r <| then_r ?_
      refine ret_gen (rs := [.tmp 2]) (vs := [.bool false]) F1588 (by rfl) ⟨_, _, rfl, RV.tmp rfl, rfl⟩ ⟨_, rfl, ⟨rfl, s1501.drop.drop⟩⟩
    · replace H := ite_f hb1554 H
      refine st_gop F1553 rfl rfl (look_b rfl hb1554) (ex_move rfl) rfl rfl fun q1589 F1590 => ?_
      refine st_gop F1590 rfl rfl (look_b rfl hb1554) (ex_ne rfl rfl) rfl rfl fun q1591 F1592 => ?_
      refine st_pr F1592 (PR.op (ex_pick_f (ev_b rfl hb1554) rfl) <| PR.op (ex_move rfl) <| PR.nil) fun q1593 F1594 => ?_
      refine bool_split (x1492.1 != 0) (fun hb1595 => ?_) (fun hb1595 => ?_)
      · replace H := ite_t hb1595 H
        refine st_gskip F1594 rfl rfl (look_b rfl hb1595) Bool.noConfusion rfl rfl fun q1596 F1597 => ?_
        refine st_gskip F1597 rfl rfl (look_b rfl hb1595) Bool.noConfusion rfl rfl fun q1598 F1599 => ?_
        refine st_pr F1599 (PR.op (ex_pick_t (ev_b rfl hb1595) rfl) <| PR.op (ex_move rfl) <| PR.nil) fun q1600 F1601 => ?_
        refine st_gskip F1601 rfl rfl rfl Bool.noConfusion rfl rfl fun q1602 F1603 => ?_
        refine st_gskip F1603 rfl rfl rfl Bool.noConfusion rfl rfl fun q1604 F1605 => ?_
        refine st_pr F1605 (PR.op (ex_pick_t rfl rfl) <| PR.op (ex_move rfl) <| PR.nil) fun q1606 F1607 => ?_
        refine st_gskip F1607 rfl rfl rfl Bool.noConfusion rfl rfl fun q1608 F1609 => ?_
        refine st_gskip F1609 rfl rfl rfl Bool.noConfusion rfl rfl fun q1610 F1611 => ?_
        refine st_gskip F1611 rfl rfl rfl Bool.noConfusion rfl rfl fun q1612 F1613 => ?_
        refine st_gskip F1613 rfl rfl rfl Bool.noConfusion rfl rfl fun q1614 F1615 => ?_
        refine st_gskip F1615 rfl rfl rfl Bool.noConfusion rfl rfl fun q1616 F1617 => ?_
        refine st_pr F1617 (PR.op (ex_pick_t rfl rfl) <| PR.nil) fun q1618 F1619 => ?_
        refine st_end ?_
        refine then_n ?_
        refine wp_if_t F1619 rfl ?_
        refine wp_seq ?_
        refine wp_reg ?_
        refine st_pr F1619 (PR.op (ex_asg rfl) <| PR.nil) fun q1622 F1623 => ?_
        refine st_end ?_
        refine then_n ?_
        obtain rfl := some_ok H
        refine wp_ret ?_
        refine blk_r <| then_r <| then_r <| blk_r <| then_r ?_
        refine ret_gen (rs := [.tmp 2]) (vs := [.bool false]) F1623 (by rfl) ⟨_, _, rfl, RV.tmp rfl, rfl⟩ ⟨_, rfl, ⟨rfl, s1501.drop.drop⟩⟩
      · replace H := ite_f hb1595 H
        refine st_gop F1594 rfl rfl (look_b rfl hb1595) (ex_move rfl) rfl rfl fun q1624 F1625 => ?_
        refine st_gop F1625 rfl rfl (look_b rfl hb1595) (ex_ne rfl rfl) rfl rfl fun q1626 F1627 => ?_
        refine st_pr F1627 (PR.op (ex_pick_f (ev_b rfl hb1595) rfl) <| PR.op (ex_move rfl) <| PR.nil) fun q1628 F1629 => ?_
        refine bool_split (x1492.2.1 != 0) (fun hb1630 => ?_) (fun hb1630 => ?_)
        · replace H := ite_t hb1630 H
          refine st_gskip F1629 rfl rfl (look_b rfl hb1630) Bool.noConfusion rfl rfl fun q1631 F1632 => ?_
          refine st_gskip F1632 rfl rfl (look_b rfl hb1630) Bool.noConfusion rfl rfl fun q1633 F1634 => ?_
          refine st_pr F1634 (PR.op (ex_pick_t (ev_b rfl hb1630) rfl) <| PR.op (ex_move rfl) <| PR.nil) fun q1635 F1636 => ?_
          refine st_gskip F1636 rfl rfl rfl Bool.noConfusion rfl rfl fun q1637 F1638 => ?_
          refine st_gskip F1638 rfl rfl rfl Bool.noConfusion rfl rfl fun q1639 F1640 => ?_
          refine st_gskip F1640 rfl rfl rfl Bool.noConfusion rfl rfl fun q1641 F1642 => ?_
          refine st_gskip F1642 rfl rfl rfl Bool.noConfusion rfl rfl fun q1643 F1644 => ?_
          refine st_gskip F1644 rfl rfl rfl Bool.noConfusion rfl rfl fun q1645 F1646 => ?_
          refine st_pr F1646 (PR.op (ex_pick_t rfl rfl) <| PR.nil) fun q1647 F1648 => ?_
          refine st_end ?_
          refine then_n ?_
          refine wp_if_t F1648 rfl ?_
          refine wp_seq ?_
          refine wp_reg ?_
          refine st_pr F1648 (PR.op (ex_asg rfl) <| PR.nil) fun q1651 F1652 => ?_
          refine st_end ?_
          refine then_n ?_
          obtain rfl := some_ok H
          refine wp_ret ?_
          refine blk_r <| then_r <| then_r <| blk_r <| then_r ?_
          refine ret_gen (rs := [.tmp 2]) (vs := [.bool false]) F1652 (by rfl) ⟨_, _, rfl, RV.tmp rfl, rfl⟩ ⟨_, rfl, ⟨rfl, s1501.drop.drop⟩⟩
        · replace H := ite_f hb1630 H
          refine st_gop F1629 rfl rfl (look_b rfl hb1630) (ex_move rfl) rfl rfl fun q1653 F1654 => ?_
          refine st_gop F1654 rfl rfl (look_b rfl hb1630) (ex_ne rfl rfl) rfl rfl fun q1655 F1656 => ?_
          refine st_pr F1656 (PR.op (ex_pick_f (ev_b rfl hb1630) rfl) <| PR.op (ex_move rfl) <| PR.nil) fun q1657 F1658 => ?_
          refine bool_split (x1492.2.2 != 0) (fun hb1659 => ?_) (fun hb1659 => ?_)
          · replace H := ite_t hb1659 H
            refine st_gskip F1658 rfl rfl (look_b rfl hb1659) Bool.noConfusion rfl rfl fun q1660 F1661 => ?_
            refine st_gskip F1661 rfl rfl (look_b rfl hb1659) Bool.noConfusion rfl rfl fun q1662 F1663 => ?_
            refine st_gskip F1663 rfl rfl (look_b rfl hb1659) Bool.noConfusion rfl rfl fun q1664 F1665 => ?_
            refine st_gskip F1665 rfl rfl (look_b rfl hb1659) Bool.noConfusion rfl rfl fun q1666 F1667 => ?_
            refine st_gskip F1667 rfl rfl (look_b rfl hb1659) Bool.noConfusion rfl rfl fun q1668 F1669 => ?_
            refine st_pr F1669 (PR.op (ex_pick_t (ev_b rfl hb1659) rfl) <| PR.nil) fun q1670 F1671 => ?_
            refine st_end ?_
            refine then_n ?_
            refine wp_if_t F1671 rfl ?_
            refine wp_seq ?_
            refine wp_reg ?_
            refine st_pr F1671 (PR.op (ex_asg rfl) <| PR.nil) fun q1674 F1675 => ?_
            refine st_end ?_
            refine then_n ?_
            obtain rfl := some_ok H
            refine wp_ret ?_
            refine blk_r <| then_r <| then_r <| blk_r <| then_r ?_
            refine ret_gen (rs := [.tmp 2]) (vs := [.bool false]) F1675 (by rfl) ⟨_, _, rfl, RV.tmp rfl, rfl⟩ ⟨_, rfl, ⟨rfl, s1501.drop.drop⟩⟩
          · replace H := ite_f hb1659 H
            refine st_gop F1658 rfl rfl (look_b rfl hb1659) (ex_move rfl) rfl rfl fun q1676 F1677 => ?_
            obtain ⟨x1678, hx1679, H⟩ := bind_ok H
            refine st_ungd F1677 rfl (look_b rfl hb1659) ?_
            refine st_call (args := [.tmp 48]) F1677 Fx.fn7 rfl (machine_Machine_Outcome_n_c    hx1679) rfl fun v1680 w1681 q1682 hS1684 F1683 => ?_
            obtain ⟨v1687, rfl, hq1686⟩ := hS1684
            have s1685 := s1501.add hq1686
            refine st_gop F1683 rfl rfl (look_b rfl hb1659) (ex_build (vs := []) Fx.zero35 Fx.pl35 rfl (cs := [.int .i64 0, .int .i64 0, .int .i64 0, .slice none 0 0, .int .i64 0, .int .i64 0]) (rfl)) rfl rfl fun q1689 F1690 => ?_
            obtain ⟨x1691, hx1692, H⟩ := bind_ok H
            refine st_ungd F1690 rfl (look_b rfl hb1659) ?_
            refine st_call (args := [.tmp 49, .tmp 50]) F1690 Fx.fn6 rfl (provisoplain_SameOutcome_c (a0 := (⟨x1678.Err, x1678.Trap, x1678.Result, x1678.Told, x1678.Steps, x1678.Cells⟩ : S_api_Outcome)) (a1 := (⟨0, 0, 0, [], 0, 0⟩ : S_api_Outcome))  (s1685.rd0 (.head _)) Rd.nil_ hx1692) rfl fun v1693 w1694 q1695 hS1697 F1696 => ?_
            obtain ⟨rfl, hq1699⟩ := hS1697
            have s1698 := s1685.add hq1699
            refine st_gop F1696 rfl rfl (look_b rfl hb1659) (ex_not rfl) rfl rfl fun q1700 F1701 => ?_
            refine st_pr F1701 (PR.op (ex_pick_f (ev_b rfl hb1659) rfl) <| PR.nil) fun q1702 F1703 => ?_
            refine st_end ?_
            refine then_n ?_
            refine wp_if F1703 rfl (fun hb1704 => ?_) (fun hb1704 => ?_)
            · replace H := ite_t hb1704 H
              refine wp_seq ?_
              refine wp_reg ?_
              refine st_pr F1703 (PR.op (ex_asg rfl) <| PR.nil) fun q1707 F1708 => ?_
              refine st_end ?_
              refine then_n ?_
              obtain rfl := some_ok H
              refine wp_ret ?_
              refine blk_r <| then_r <| then_r <| blk_r <| then_r ?_
              refine ret_gen (rs := [.tmp 2]) (vs := [.bool false]) F1708 (by rfl) ⟨_, _, rfl, RV.tmp rfl, rfl⟩ ⟨_, rfl, ⟨rfl, s1698.drop.drop.drop⟩⟩
            · replace H := ite_f hb1704 H
              refine wp_skip ?_
              refine blk_n ?_
              refine then_n ?_
              refine wp_reg ?_
              refine st_pr F1703 (PR.op (ex_add rfl rfl) <| PR.op (ex_move rfl) <| PR.nil) fun q1709 F1710 => ?_
              refine st_end ?_
              refine then_n ?_
              refine rounds_step ?_
              refine wp_seq ?_
              refine wp_reg ?_
              refine st_pr F1710 (PR.op (ex_lt rfl rfl) <| PR.nil) fun q1713 F1714 => ?_
              refine st_end ?_
              refine then_n ?_
              refine wp_seq ?_
              refine wp_if_t F1714 rfl ?_
              refine wp_skip ?_
              refine then_n ?_
              refine wp_seq ?_
              refine wp_block ?_
              refine wp_seq ?_
              refine wp_reg ?_
              refine st_pr F1714 (PR.op (ex_ixlit Fx.sl26 rfl rfl (by decide)) <| PR.op (ex_ld Fx.nag22 rfl (s1698.blk_cell (.tail _ <| .head _) rfl)) <| PR.op (ex_asg rfl) <| PR.nil) fun q2007 F2008 => ?_
              refine st_end ?_
              refine then_n ?_
              refine wp_seq ?_
              refine wp_reg ?_
              obtain ⟨x2028, hx2029, H⟩ := bind_ok H
              refine st_pr F2008 (PR.op (ex_move rfl) <| PR.op (ex_move rfl) <| PR.nil) fun q2030 F2031 => ?_
              have s2039 := s1698.f2
              obtain ⟨G2044, hst2040, hF2041, hG2042, hcl2043⟩ := SL.open_ (ps := [Blk g1171 25 [.pointer none]]) (rest := [Sl (Ty.int .i64) v1687 x1678.Told, Blk g1177 22 [.pointer none, .pointer (some ⟨g1171, 0, none⟩)]]) s2039
              refine st_call (args := [.tmp 19, .tmp 20]) F2031 Fx.fn4 rfl (machine_Machine_Go_zp_c (a1 := a0) hst2040  hx2029) rfl fun v2032 w2033 q2034 hS2036 F2035 => ?_
              obtain ⟨rfl, hq2038⟩ := hS2036
              have s2037 := hcl2043 _ _ hq2038
              refine st_pr F2035 (PR.op (ex_move rfl) <| PR.op (ex_extract (v := .bool x2028.1) rfl rfl) <| PR.op (ex_extract (v := .int .i64 x2028.2) rfl rfl) <| PR.op (ex_asg rfl) <| PR.op (ex_asg rfl) <| PR.nil) fun q2045 F2046 => ?_
              refine st_end ?_
              refine then_n ?_
              refine wp_seq ?_
              refine wp_reg ?_
              obtain ⟨x2066, hx2067, H⟩ := bind_ok H
              refine st_pr F2046 (PR.op (ex_move rfl) <| PR.nil) fun q2068 F2069 => ?_
              have s2077 := s2037
              obtain ⟨G2082, hst2078, hF2079, hG2080, hcl2081⟩ := SL.open_ (ps := [Blk g1171 25 [.pointer none]]) (rest := [Sl (Ty.int .i64) v1687 x1678.Told, Blk g1177 22 [.pointer none, .pointer (some ⟨g1171, 0, none⟩)]]) s2077
              refine st_call (args := [.tmp 25]) F2069 Fx.fn5 rfl (machine_Machine_Where_z_c  hst2078  hx2067) rfl fun v2070 w2071 q2072 hS2074 F2073 => ?_
              obtain ⟨rfl, hq2076⟩ := hS2074
              have s2075 := hcl2081 _ _ hq2076
              refine st_pr F2073 (PR.op (ex_move rfl) <| PR.op (ex_extract (v := .int .i64 x2066.1) rfl rfl) <| PR.op (ex_extract (v := .int .i64 x2066.2.1) rfl rfl) <| PR.op (ex_extract (v := .int .i64 x2066.2.2) rfl rfl) <| PR.op (ex_asg rfl) <| PR.op (ex_asg rfl) <| PR.op (ex_asg rfl) <| PR.nil) fun q2083 F2084 => ?_
              refine st_end ?_
              refine then_n ?_
              refine wp_seq ?_
              refine wp_reg ?_
              refine st_pr F2084 (PR.op (ex_move rfl) <| PR.op (ex_move rfl) <| PR.nil) fun q2085 F2086 => ?_
              refine bool_split x2028.1 (fun hb2087 => ?_) (fun hb2087 => ?_)
              · replace H := ite_t hb2087 H
                refine st_gskip F2086 rfl rfl (look_b rfl hb2087) Bool.noConfusion rfl rfl fun q2088 F2089 => ?_
                refine st_gskip F2089 rfl rfl (look_b rfl hb2087) Bool.noConfusion rfl rfl fun q2090 F2091 => ?_
                refine st_pr F2091 (PR.op (ex_pick_t (ev_b rfl hb2087) rfl) <| PR.op (ex_move rfl) <| PR.nil) fun q2092 F2093 => ?_
                refine st_gskip F2093 rfl rfl rfl Bool.noConfusion rfl rfl fun q2094 F2095 => ?_
                refine st_gskip F2095 rfl rfl rfl Bool.noConfusion rfl rfl fun q2096 F2097 => ?_
                refine st_pr F2097 (PR.op (ex_pick_t rfl rfl) <| PR.op (ex_move rfl) <| PR.nil) fun q2098 F2099 => ?_
                refine st_gskip F2099 rfl rfl rfl Bool.noConfusion rfl rfl fun q2100 F2101 => ?_
                refine st_gskip F2101 rfl rfl rfl Bool.noConfusion rfl rfl fun q2102 F2103 => ?_
                refine st_pr F2103 (PR.op (ex_pick_t rfl rfl) <| PR.op (ex_move rfl) <| PR.nil) fun q2104 F2105 => ?_
                refine st_gskip F2105 rfl rfl rfl Bool.noConfusion rfl rfl fun q2106 F2107 => ?_
                refine st_gskip F2107 rfl rfl rfl Bool.noConfusion rfl rfl fun q2108 F2109 => ?_
                refine st_pr F2109 (PR.op (ex_pick_t rfl rfl) <| PR.op (ex_move rfl) <| PR.nil) fun q2110 F2111 => ?_
                refine st_gskip F2111 rfl rfl rfl Bool.noConfusion rfl rfl fun q2112 F2113 => ?_
                refine st_gskip F2113 rfl rfl rfl Bool.noConfusion rfl rfl fun q2114 F2115 => ?_
                refine st_gskip F2115 rfl rfl rfl Bool.noConfusion rfl rfl fun q2116 F2117 => ?_
                refine st_gskip F2117 rfl rfl rfl Bool.noConfusion rfl rfl fun q2118 F2119 => ?_
                refine st_gskip F2119 rfl rfl rfl Bool.noConfusion rfl rfl fun q2120 F2121 => ?_
                refine st_pr F2121 (PR.op (ex_pick_t rfl rfl) <| PR.nil) fun q2122 F2123 => ?_
                refine st_end ?_
                refine then_n ?_
                refine wp_if_t F2123 rfl ?_
                refine wp_seq ?_
                refine wp_reg ?_
                refine st_pr F2123 (PR.op (ex_asg rfl) <| PR.nil) fun q2126 F2127 => ?_
                refine st_end ?_
                refine then_n ?_
                obtain rfl := some_ok H
                refine wp_ret ?_
                refine blk_r <| then_r <| then_r <| blk_r <| then_r ?_
                refine ret_gen (rs := [.tmp 2]) (vs := [.bool false]) F2127 (by rfl) ⟨_, _, rfl, RV.tmp rfl, rfl⟩ ⟨_, rfl, ⟨rfl, s2075.drop.drop.drop⟩⟩
              · replace H := ite_f hb2087 H
                refine st_gop F2086 rfl rfl (look_b rfl hb2087) (ex_move rfl) rfl rfl fun q2128 F2129 => ?_
                refine st_gop F2129 rfl rfl (look_b rfl hb2087) (ex_ne rfl rfl) rfl rfl fun q2130 F2131 => ?_
                refine st_pr F2131 (PR.op (ex_pick_f (ev_b rfl hb2087) rfl) <| PR.op (ex_move rfl) <| PR.nil) fun q2132 F2133 => ?_
                refine bool_split (x2028.2 != 8) (fun hb2134 => ?_) (fun hb2134 => ?_)
                · replace H := ite_t hb2134 H
                  refine st_gskip F2133 rfl rfl (look_b rfl hb2134) Bool.noConfusion rfl rfl fun q2135 F2136 => ?_
                  refine st_gskip F2136 rfl rfl (look_b rfl hb2134) Bool.noConfusion rfl rfl fun q2137 F2138 => ?_
                  refine st_pr F2138 (PR.op (ex_pick_t (ev_b rfl hb2134) rfl) <| PR.op (ex_move rfl) <| PR.nil) fun q2139 F2140 => ?_
                  refine st_gskip F2140 rfl rfl rfl Bool.noConfusion rfl rfl fun q2141 F2142 => ?_
                  refine st_gskip F2142 rfl rfl rfl Bool.noConfusion rfl rfl fun q2143 F2144 => ?_
                  refine st_pr F2144 (PR.op (ex_pick_t rfl rfl) <| PR.op (ex_move rfl) <| PR.nil) fun q2145 F2146 => ?_
                  refine st_gskip F2146 rfl rfl rfl Bool.noConfusion rfl rfl fun q2147 F2148 => ?_
                  refine st_gskip F2148 rfl rfl rfl Bool.noConfusion rfl rfl fun q2149 F2150 => ?_
                  refine st_pr F2150 (PR.op (ex_pick_t rfl rfl) <| PR.op (ex_move rfl) <| PR.nil) fun q2151 F2152 => ?_
                  refine st_gskip F2152 rfl rfl rfl Bool.noConfusion rfl rfl fun q2153 F2154 => ?_
                  refine st_gskip F2154 rfl rfl rfl Bool.noConfusion rfl rfl fun q2155 F2156 => ?_
                  refine st_gskip F2156 rfl rfl rfl Bool.noConfusion rfl rfl fun q2157 F2158 => ?_
                  refine st_gskip F2158 rfl rfl rfl Bool.noConfusion rfl rfl fun q2159 F2160 => ?_
                  refine st_gskip F2160 rfl rfl rfl Bool.noConfusion rfl rfl fun q2161 F2162 => ?_
                  refine st_pr F2162 (PR.op (ex_pick_t rfl rfl) <| PR.nil) fun q2163 F2164 => ?_
                  refine st_end ?_
                  refine then_n ?_
                  refine wp_if_t F2164 rfl ?_
                  refine wp_seq ?_
                  refine wp_reg ?_
                  refine st_pr F2164 (PR.op (ex_asg rfl) <| PR.nil) fun q2167 F2168 => ?_
                  refine st_end ?_
                  refine then_n ?_
                  obtain rfl := some_ok H
                  refine wp_ret ?_
                  refine blk_r <| then_r <| then_r <| blk_r <| then_r ?_
                  refine ret_gen (rs := [.tmp 2]) (vs := [.bool false]) F2168 (by rfl) ⟨_, _, rfl, RV.tmp rfl, rfl⟩ ⟨_, rfl, ⟨rfl, s2075.drop.drop.drop⟩⟩
                · replace H := ite_f hb2134 H
                  refine st_gop F2133 rfl rfl (look_b rfl hb2134) (ex_move rfl) rfl rfl fun q2169 F2170 => ?_
                  refine st_gop F2170 rfl rfl (look_b rfl hb2134) (ex_ne rfl rfl) rfl rfl fun q2171 F2172 => ?_
                  refine st_pr F2172 (PR.op (ex_pick_f (ev_b rfl hb2134) rfl) <| PR.op (ex_move rfl) <| PR.nil) fun q2173 F2174 => ?_
                  refine bool_split (x2066.1 != 0) (fun hb2175 => ?_) (fun hb2175 => ?_)
                  · replace H := ite_t hb2175 H
                    refine st_gskip F2174 rfl rfl (look_b rfl hb2175) Bool.noConfusion rfl rfl fun q2176 F2177 => ?_
                    refine st_gskip F2177 rfl rfl (look_b rfl hb2175) Bool.noConfusion rfl rfl fun q2178 F2179 => ?_
                    refine st_pr F2179 (PR.op (ex_pick_t (ev_b rfl hb2175) rfl) <| PR.op (ex_move rfl) <| PR.nil) fun q2180 F2181 => ?_
                    refine st_gskip F2181 rfl rfl rfl Bool.noConfusion rfl rfl fun q2182 F2183 => ?_
                    refine st_gskip F2183 rfl rfl rfl Bool.noConfusion rfl rfl fun q2184 F2185 => ?_
                    refine st_pr F2185 (PR.op (ex_pick_t rfl rfl) <| PR.op (ex_move rfl) <| PR.nil) fun q2186 F2187 => ?_
                    refine st_gskip F2187 rfl rfl rfl Bool.noConfusion rfl rfl fun q2188 F2189 => ?_
                    refine st_gskip F2189 rfl rfl rfl Bool.noConfusion rfl rfl fun q2190 F2191 => ?_
                    refine st_gskip F2191 rfl rfl rfl Bool.noConfusion rfl rfl fun q2192 F2193 => ?_
                    refine st_gskip F2193 rfl rfl rfl Bool.noConfusion rfl rfl fun q2194 F2195 => ?_
                    refine st_gskip F2195 rfl rfl rfl Bool.noConfusion rfl rfl fun q2196 F2197 => ?_
                    refine st_pr F2197 (PR.op (ex_pick_t rfl rfl) <| PR.nil) fun q2198 F2199 => ?_
                    refine st_end ?_
                    refine then_n ?_
                    refine wp_if_t F2199 rfl ?_
                    refine wp_seq ?_
                    refine wp_reg ?_
                    refine st_pr F2199 (PR.op (ex_asg rfl) <| PR.nil) fun q2202 F2203 => ?_
                    refine st_end ?_
                    refine then_n ?_
                    obtain rfl := some_ok H
                    refine wp_ret ?_
                    refine blk_r <| then_r <| then_r <| blk_r <| then_r ?_
                    refine ret_gen (rs := [.tmp 2]) (vs := [.bool false]) F2203 (by rfl) ⟨_, _, rfl, RV.tmp rfl, rfl⟩ ⟨_, rfl, ⟨rfl, s2075.drop.drop.drop⟩⟩
                  · replace H := ite_f hb2175 H
                    refine st_gop F2174 rfl rfl (look_b rfl hb2175) (ex_move rfl) rfl rfl fun q2204 F2205 => ?_
                    refine st_gop F2205 rfl rfl (look_b rfl hb2175) (ex_ne rfl rfl) rfl rfl fun q2206 F2207 => ?_
                    refine st_pr F2207 (PR.op (ex_pick_f (ev_b rfl hb2175) rfl) <| PR.op (ex_move rfl) <| PR.nil) fun q2208 F2209 => ?_
                    refine bool_split (x2066.2.1 != 0) (fun hb2210 => ?_) (fun hb2210 => ?_)
                    · replace H := ite_t hb2210 H
                      refine st_gskip F2209 rfl rfl (look_b rfl hb2210) Bool.noConfusion rfl rfl fun q2211 F2212 => ?_
                      refine st_gskip F2212 rfl rfl (look_b rfl hb2210) Bool.noConfusion rfl rfl fun q2213 F2214 => ?_
                      refine st_pr F2214 (PR.op (ex_pick_t (ev_b rfl hb2210) rfl) <| PR.op (ex_move rfl) <| PR.nil) fun q2215 F2216 => ?_
                      refine st_gskip F2216 rfl rfl rfl Bool.noConfusion rfl rfl fun q2217 F2218 => ?_
                      refine st_gskip F2218 rfl rfl rfl Bool.noConfusion rfl rfl fun q2219 F2220 => ?_
                      refine st_gskip F2220 rfl rfl rfl Bool.noConfusion rfl rfl fun q2221 F2222 => ?_
                      refine st_gskip F2222 rfl rfl rfl Bool.noConfusion rfl rfl fun q2223 F2224 => ?_
                      refine st_gskip F2224 rfl rfl rfl Bool.noConfusion rfl rfl fun q2225 F2226 => ?_
                      refine st_pr F2226 (PR.op (ex_pick_t rfl rfl) <| PR.nil) fun q2227 F2228 => ?_
                      refine st_end ?_
                      refine then_n ?_
                      refine wp_if_t F2228 rfl ?_
                      refine wp_seq ?_
                      refine wp_reg ?_
                      refine st_pr F2228 (PR.op (ex_asg rfl) <| PR.nil) fun q2231 F2232 => ?_
                      refine st_end ?_
                      refine then_n ?_
                      obtain rfl := some_ok H
                      refine wp_ret ?_
                      refine blk_r <| then_r <| then_r <| blk_r <| then_r ?_
                      refine ret_gen (rs := [.tmp 2]) (vs := [.bool false]) F2232 (by rfl) ⟨_, _, rfl, RV.tmp rfl, rfl⟩ ⟨_, rfl, ⟨rfl, s2075.drop.drop.drop⟩⟩
                    · replace H := ite_f hb2210 H
                      refine st_gop F2209 rfl rfl (look_b rfl hb2210) (ex_move rfl) rfl rfl fun q2233 F2234 => ?_
                      refine st_gop F2234 rfl rfl (look_b rfl hb2210) (ex_ne rfl rfl) rfl rfl fun q2235 F2236 => ?_
                      refine st_pr F2236 (PR.op (ex_pick_f (ev_b rfl hb2210) rfl) <| PR.op (ex_move rfl) <| PR.nil) fun q2237 F2238 => ?_
                      refine bool_split (x2066.2.2 != 0) (fun hb2239 => ?_) (fun hb2239 => ?_)
                      · replace H := ite_t hb2239 H
                        refine st_gskip F2238 rfl rfl (look_b rfl hb2239) Bool.noConfusion rfl rfl fun q2240 F2241 => ?_
                        refine st_gskip F2241 rfl rfl (look_b rfl hb2239) Bool.noConfusion rfl rfl fun q2242 F2243 => ?_
                        refine st_gskip F2243 rfl rfl (look_b rfl hb2239) Bool.noConfusion rfl rfl fun q2244 F2245 => ?_
                        refine st_gskip F2245 rfl rfl (look_b rfl hb2239) Bool.noConfusion rfl rfl fun q2246 F2247 => ?_
                        refine st_gskip F2247 rfl rfl (look_b rfl hb2239) Bool.noConfusion rfl rfl fun q2248 F2249 => ?_
                        refine st_pr F2249 (PR.op (ex_pick_t (ev_b rfl hb2239) rfl) <| PR.nil) fun q2250 F2251 => ?_
                        refine st_end ?_
                        refine then_n ?_
                        refine wp_if_t F2251 rfl ?_
                        refine wp_seq ?_
                        refine wp_reg ?_
                        refine st_pr F2251 (PR.op (ex_asg rfl) <| PR.nil) fun q2254 F2255 => ?_
                        refine st_end ?_
                        refine then_n ?_
                        obtain rfl := some_ok H
                        refine wp_ret ?_
                        refine blk_r <| then_r <| then_r <| blk_r <| then_r ?_
                        refine ret_gen (rs := [.tmp 2]) (vs := [.bool false]) F2255 (by rfl) ⟨_, _, rfl, RV.tmp rfl, rfl⟩ ⟨_, rfl, ⟨rfl, s2075.drop.drop.drop⟩⟩
                      · replace H := ite_f hb2239 H
                        refine st_gop F2238 rfl rfl (look_b rfl hb2239) (ex_move rfl) rfl rfl fun q2256 F2257 => ?_
                        obtain ⟨x2258, hx2259, H⟩ := bind_ok H
                        refine st_ungd F2257 rfl (look_b rfl hb2239) ?_
                        have s2267 := s2075
                        obtain ⟨G2272, hst2268, hF2269, hG2270, hcl2271⟩ := SL.open_ (ps := [Blk g1171 25 [.pointer none]]) (rest := [Sl (Ty.int .i64) v1687 x1678.Told, Blk g1177 22 [.pointer none, .pointer (some ⟨g1171, 0, none⟩)]]) s2267
                        refine st_call (args := [.tmp 48]) F2257 Fx.fn7 rfl (machine_Machine_Outcome_z_c  hst2268  hx2259) rfl fun v2260 w2261 q2262 hS2264 F2263 => ?_
                        obtain ⟨v2273, rfl, hq2266⟩ := hS2264
                        have s2265 := hcl2271 _ _ hq2266
                        refine st_gop F2263 rfl rfl (look_b rfl hb2239) (ex_build (vs := []) Fx.zero35 Fx.pl35 rfl (cs := [.int .i64 0, .int .i64 0, .int .i64 0, .slice none 0 0, .int .i64 0, .int .i64 0]) (rfl)) rfl rfl fun q2275 F2276 => ?_
                        obtain ⟨x2277, hx2278, H⟩ := bind_ok H
                        refine st_ungd F2276 rfl (look_b rfl hb2239) ?_
                        refine st_call (args := [.tmp 49, .tmp 50]) F2276 Fx.fn6 rfl (provisoplain_SameOutcome_c (a0 := (⟨x2258.Err, x2258.Trap, x2258.Result, x2258.Told, x2258.Steps, x2258.Cells⟩ : S_api_Outcome)) (a1 := (⟨0, 0, 0, [], 0, 0⟩ : S_api_Outcome))  (s2265.rd0 (.tail _ <| .head _)) Rd.nil_ hx2278) rfl fun v2279 w2280 q2281 hS2283 F2282 => ?_
                        obtain ⟨rfl, hq2285⟩ := hS2283
                        have s2284 := s2265.add hq2285
                        refine st_gop F2282 rfl rfl (look_b rfl hb2239) (ex_not rfl) rfl rfl fun q2286 F2287 => ?_
                        refine st_pr F2287 (PR.op (ex_pick_f (ev_b rfl hb2239) rfl) <| PR.nil) fun q2288 F2289 => ?_
                        refine st_end ?_
                        refine then_n ?_
                        refine wp_if F2289 rfl (fun hb2290 => ?_) (fun hb2290 => ?_)
                        · replace H := ite_t hb2290 H
                          refine wp_seq ?_
                          refine wp_reg ?_
                          refine st_pr F2289 (PR.op (ex_asg rfl) <| PR.nil) fun q2293 F2294 => ?_
                          refine st_end ?_
                          refine then_n ?_
                          obtain rfl := some_ok H
                          refine wp_ret ?_
                          refine blk_r <| then_r <| then_r <| blk_r <| then_r ?_
                          refine ret_gen (rs := [.tmp 2]) (vs := [.bool false]) F2294 (by rfl) ⟨_, _, rfl, RV.tmp rfl, rfl⟩ ⟨_, rfl, ⟨rfl, s2284.drop.drop.drop.drop⟩⟩
                        · replace H := ite_f hb2290 H
                          refine wp_skip ?_
                          refine blk_n ?_
                          refine then_n ?_
                          refine wp_reg ?_
                          refine st_pr F2289 (PR.op (ex_add rfl rfl) <| PR.op (ex_move rfl) <| PR.nil) fun q2295 F2296 => ?_
                          refine st_end ?_
                          refine then_n ?_
                          refine rounds_step ?_
                          refine wp_seq ?_
                          refine wp_reg ?_
                          refine st_pr F2296 (PR.op (ex_lt rfl rfl) <| PR.nil) fun q2299 F2300 => ?_
                          refine st_end ?_
                          refine then_n ?_
                          refine wp_seq ?_
                          refine wp_if_f F2300 rfl ?_
                          refine wp_exit ?_
                          refine then_x <| then_x <| blk_hit ?_
                          refine then_n ?_
                          refine wp_seq ?_
                          refine wp_reg ?_
                          refine st_pr F2300 (PR.op (ex_asg rfl) <| PR.nil) fun q2303 F2304 => ?_
                          refine st_end ?_
                          refine then_n ?_
                          obtain rfl := some_ok H
                          refine wp_ret ?_
                          refine ret_gen (rs := [.tmp 2]) (vs := [.bool true]) F2304 (by rfl) ⟨_, _, rfl, RV.tmp rfl, rfl⟩ ⟨_, rfl, ⟨rfl, s2284.drop.drop.drop.drop⟩⟩
end Go.Proofs.Ytfepcangbajjjaa
