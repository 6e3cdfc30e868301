/- The walk of proviso/provisolaw24.TalkReads. -/
import Derived.Test.YtpcdphfneidalaaFx
import Derived.Test.YtpcdphfneidalaaDf
import Derived.Test.YtpcdphfneidalaaC8
import Derived.Test.YtpcdphfneidalaaC11
import Derived.Test.YtpcdphfneidalaaC14
import Derived.Test.YtpcdphfneidalaaC20
import Derived.Test.YtpcdphfneidalaaC21
import Derived.Test.YtpcdphfneidalaaC22
import Derived.Test.YtpcdphfneidalaaC23
import Derived.Test.YtpcdphfneidalaaC24
set_option linter.unusedVariables false
set_option linter.unusedSimpArgs false
namespace Go.Proofs.Ytpcdphfneidalaa
open Go Go.RowKit Go.Pv
theorem provisolaw24_TalkReads_c {w : World} {v0 : Value} {a0 : List UInt8} {r : Bool} (hr0 : Rd Ty.u8 w [] v0 a0) (H : provisolaw24_TalkReads a0 = some r) :
    Calls Try.prog 5 #[v0] w (Ret fun u_ w_ => u_ = .bool r ∧ SL w [] w_ []) := by
  have s0 : SL w [] w [] := SL.init0 w
  refine call_enter Try.func5 rfl Try.ntmps5 (Nat.le_of_ble_eq_true rfl) (args := [v0]) fun q0 F0 => ?_
  unfold provisolaw24_TalkReads at H
  refine wp_seq ?_
  refine wp_reg ?_
  refine st_pr F0 (PR.op (ex_asg rfl) <| PR.nil) fun q3 F4 => ?_
  refine st_end ?_
  refine then_n ?_
  refine wp_seq ?_
  refine wp_reg ?_
  obtain ⟨x22, hx23, H⟩ := bind_ok H
  refine st_pr F4 (PR.op (ex_move rfl) <| PR.nil) fun q24 F25 => ?_
  refine st_call (args := [.tmp 13]) F25 Fx.fn8 rfl (provisoplain_Roomy_c (a0 := a0)  (hr0.pass0 s0) hx23) rfl fun v26 w27 q28 hS30 F29 => ?_
  obtain ⟨v33, v35, rfl, hv34, hq32⟩ := hS30
  have s31 := s0.add hq32
  refine st_pr F29 (PR.op (ex_move rfl) <| PR.op (ex_extract (v := v33) rfl rfl) <| PR.op (ex_extract (v := v35) rfl rfl) <| PR.op (ex_asg rfl) <| PR.op (ex_asg rfl) <| PR.nil) fun q37 F38 => ?_
  refine st_end ?_
  refine then_n ?_
  refine wp_seq ?_
  refine wp_reg ?_
  obtain ⟨x67, hx68, H⟩ := bind_ok H
  refine st_pr F38 (PR.op (ex_move rfl) <| PR.nil) fun q69 F70 => ?_
  refine st_call (args := [.tmp 18]) F70 Fx.fn20 rfl (talk_Unpack_c (a0 := x22.1)  (hv34.rd (s31.rd0 (.head _))) hx68) rfl fun v71 w72 q73 hS75 F74 => ?_
  obtain ⟨v78, rfl, hq77⟩ := hS75
  have s76 := s31.add hq77
  refine st_pr F74 (PR.op (ex_move rfl) <| PR.op (ex_extract (v := .agg ⟨[.int .i64 x67.1.Command, .int .i64 x67.1.Number, v78]⟩) rfl rfl) <| PR.op (ex_extract (v := .int .i64 x67.2) rfl rfl) <| PR.nil) fun q80 F81 => ?_
  refine st_alloc F81 s76 Fx.zero35 rfl rfl fun g82 w83 q84 F85 s86 => ?_
  have s92 := s86
  refine st_storea F85 s92 rfl rfl Fx.sz35 (one_cons rfl (one_cons rfl (one_cons (form_one (formL (s92.own_rd (.tail _ <| .head _)))) one_nil))) (Nat.le_of_ble_eq_true rfl) fun w88 q89 F90 s91 => ?_
  replace s91 : SL w [] w88 [Blk g82 35 [.int .i64 x67.1.Command, .int .i64 x67.1.Number, v78], Sl Ty.u8 v78 x67.1.Data, Sl Ty.u8 v35 x22.2] := s91
  refine st_pr F90 (PR.op (ex_asg rfl) <| PR.nil) fun q93 F94 => ?_
  refine st_end ?_
  refine then_n ?_
  refine wp_seq ?_
  refine wp_reg ?_
  obtain ⟨x123, hx124, H⟩ := bind_ok H
  refine st_pr F94 (PR.op (ex_move rfl) <| PR.nil) fun q125 F126 => ?_
  refine st_call (args := [.tmp 23]) F126 Fx.fn21 rfl (provisoref24_Unpack_c (a0 := a0)  (hr0.pass0 s91) hx124) rfl fun v127 w128 q129 hS131 F130 => ?_
  obtain ⟨v134, rfl, hq133⟩ := hS131
  have s132 := s91.add hq133
  refine st_pr F130 (PR.op (ex_move rfl) <| PR.op (ex_extract (v := .agg ⟨[.int .i64 x123.1.Command, .int .i64 x123.1.Number, v134]⟩) rfl rfl) <| PR.op (ex_extract (v := .int .i64 x123.2) rfl rfl) <| PR.nil) fun q136 F137 => ?_
  refine st_alloc F137 s132 Fx.zero35 rfl rfl fun g138 w139 q140 F141 s142 => ?_
  have s148 := s142
  refine st_storea F141 s148 rfl rfl Fx.sz35 (one_cons rfl (one_cons rfl (one_cons (form_one (formL (s148.own_rd (.tail _ <| .head _)))) one_nil))) (Nat.le_of_ble_eq_true rfl) fun w144 q145 F146 s147 => ?_
  replace s147 : SL w [] w144 [Blk g138 35 [.int .i64 x123.1.Command, .int .i64 x123.1.Number, v134], Sl Ty.u8 v134 x123.1.Data, Blk g82 35 [.int .i64 x67.1.Command, .int .i64 x67.1.Number, v78], Sl Ty.u8 v78 x67.1.Data, Sl Ty.u8 v35 x22.2] := s147
  refine st_pr F146 (PR.op (ex_asg rfl) <| PR.nil) fun q149 F150 => ?_
  refine st_end ?_
  refine then_n ?_
  refine wp_seq ?_
  refine wp_seq ?_
  refine wp_reg ?_
  refine st_pr F150 (PR.op (ex_move rfl) <| PR.op (ex_move rfl) <| PR.op (ex_ne rfl rfl) <| PR.op (ex_move rfl) <| PR.nil) fun q190 F191 => ?_
  refine bool_split (x67.2 != x123.2) (fun hb192 => ?_) (fun hb192 => ?_)
  · replace H := ite_t hb192 H
    refine st_gskip F191 rfl rfl (look_b rfl hb192) Bool.noConfusion rfl rfl fun q193 F194 => ?_
    refine st_gskip F194 rfl rfl (look_b rfl hb192) Bool.noConfusion rfl rfl fun q195 F196 => ?_
    refine st_gskip F196 rfl rfl (look_b rfl hb192) Bool.noConfusion rfl rfl fun q197 F198 => ?_
    refine st_gskip F198 rfl rfl (look_b rfl hb192) Bool.noConfusion rfl rfl fun q199 F200 => ?_
    refine st_pr F200 (PR.op (ex_pick_t (ev_b rfl hb192) rfl) <| PR.nil) fun q201 F202 => ?_
    refine st_end ?_
    refine then_n ?_
    refine wp_if_t F202 rfl ?_
    refine wp_seq ?_
    refine wp_reg ?_
    refine st_pr F202 (PR.op (ex_asg rfl) <| PR.nil) fun q205 F206 => ?_
    refine st_end ?_
    refine then_n ?_
    obtain rfl := some_ok H
    refine wp_ret ?_
    refine then_r ?_
    refine ret_gen (rs := [.tmp 2]) (vs := [.bool false]) F206 (by rfl) ⟨_, _, rfl, RV.tmp rfl, rfl⟩ ⟨_, rfl, ⟨rfl, s147.drop.drop.drop.drop.drop⟩⟩
  · replace H := ite_f hb192 H
    refine st_gop F191 rfl rfl (look_b rfl hb192) (ex_ldagg Fx.agg35 rfl (s147.blk_cells (.tail _ <| .tail _ <| .head _) (o := 0) (ds := [.int .i64 x67.1.Command, .int .i64 x67.1.Number, v78]) (fun j u hu => by rw [Nat.zero_add]; exact hu)) rfl) rfl rfl fun q207 F208 => ?_
    refine st_gop F208 rfl rfl (look_b rfl hb192) (ex_ldagg Fx.agg35 rfl (s147.blk_cells (.head _) (o := 0) (ds := [.int .i64 x123.1.Command, .int .i64 x123.1.Number, v134]) (fun j u hu => by rw [Nat.zero_add]; exact hu)) rfl) rfl rfl fun q209 F210 => ?_
    obtain ⟨x211, hx212, H⟩ := bind_ok H
    refine st_ungd F210 rfl (look_b rfl hb192) ?_
    refine st_call (args := [.tmp 31, .tmp 32]) F210 Fx.fn11 rfl (provisolaw24_sameRequest_c (a0 := (⟨x67.1.Command, x67.1.Number, x67.1.Data⟩ : S_api_Request)) (a1 := (⟨x123.1.Command, x123.1.Number, x123.1.Data⟩ : S_api_Request))  (s147.rd0 (.tail _ <| .tail _ <| .tail _ <| .head _)) (s147.rd0 (.tail _ <| .head _)) hx212) rfl fun v213 w214 q215 hS217 F216 => ?_
    obtain ⟨rfl, hq219⟩ := hS217
    have s218 := s147.add hq219
    refine st_gop F216 rfl rfl (look_b rfl hb192) (ex_not rfl) rfl rfl fun q220 F221 => ?_
    refine st_pr F221 (PR.op (ex_pick_f (ev_b rfl hb192) rfl) <| PR.nil) fun q222 F223 => ?_
    refine st_end ?_
    refine then_n ?_
    refine wp_if F223 rfl (fun hb224 => ?_) (fun hb224 => ?_)
    · replace H := ite_t hb224 H
      refine wp_seq ?_
      refine wp_reg ?_
      refine st_pr F223 (PR.op (ex_asg rfl) <| PR.nil) fun q227 F228 => ?_
      refine st_end ?_
      refine then_n ?_
      obtain rfl := some_ok H
      refine wp_ret ?_
      refine then_r ?_
      refine ret_gen (rs := [.tmp 2]) (vs := [.bool false]) F228 (by rfl) ⟨_, _, rfl, RV.tmp rfl, rfl⟩ ⟨_, rfl, ⟨rfl, s218.drop.drop.drop.drop.drop⟩⟩
    · replace H := ite_f hb224 H
      refine wp_skip ?_
      refine then_n ?_
      refine wp_seq ?_
      refine wp_seq ?_
      refine wp_reg ?_
      refine st_pr F223 (PR.op (ex_fab Fx.fa35_2 rfl rfl) <| PR.op (ex_ld Fx.nag22 rfl (s218.blk_cell (.tail _ <| .tail _ <| .head _) rfl)) <| PR.op (ex_len rfl Try.underlying22 (formL (s218.own_rd (.tail _ <| .tail _ <| .tail _ <| .head _)))) <| PR.op (ex_move rfl) <| PR.nil) fun q582 F583 => ?_
      refine st_end ?_
      refine then_n ?_
      obtain ⟨o753, H754, R755⟩ := bind_ok H
      clear H
      refine wp_cutn (fun a w_ => ∃ v756 : Value, Fr a 70 [(0, v0), (3, v33), (4, v35)] ∧ SL w [] w_ [Sl Ty.u8 v35 x22.2, Sl Ty.u8 v756 o753]) ?_ ?_
      · have H := H754
        refine wp_block ?_
        refine wp_lp (provisolaw24_TalkReads_b0 x67) (fun s758 a w_ => ∃ v841 : Value, Fr a 70 [(0, v0), (3, v33), (4, v35), (5, .pointer (some ⟨g82, 0, none⟩)), (38, .int .i64 (x67.1.Data.length : Int)), (39, .int .i64 s758.2)] ∧ SL w [] w_ [Blk g82 35 [.int .i64 x67.1.Command, .int .i64 x67.1.Number, v841], Sl Ty.u8 v35 x22.2, Sl Ty.u8 v841 s758.1]) H ?_ ?_
        · exact ⟨v78, F583.sub ⟨rfl, rfl, rfl, rfl, rfl, rfl, trivial⟩, s218.drop.drop.f1.f2.f2⟩
        · intro s758 q886 w887 hI888 o885 H hr
          obtain ⟨v841, F883, s884⟩ := hI888
          replace H : provisolaw24_TalkReads_b0 x67 s758 = some o885 := H
          unfold provisolaw24_TalkReads_b0 at H
          refine wp_seq ?_
          refine wp_reg ?_
          refine st_pr F883 (PR.op (ex_lt rfl rfl) <| PR.nil) fun q891 F892 => ?_
          refine st_end ?_
          refine then_n ?_
          refine wp_seq ?_
          refine wp_if F892 rfl (fun hb894 => ?_) (fun hb894 => ?_)
          · replace H := ite_t hb894 H
            refine wp_skip ?_
            refine then_n ?_
            refine wp_seq ?_
            refine wp_block ?_
            refine wp_seq ?_
            refine wp_reg ?_
            refine st_pr F892 (PR.op (ex_move rfl) <| PR.op (ex_asg rfl) <| PR.nil) fun q912 F913 => ?_
            refine st_end ?_
            refine then_n ?_
            refine wp_reg ?_
            obtain ⟨x914, hx915, H⟩ := bind_ok H
            obtain ⟨ad916, hi917, he918⟩ := own_idx Flat.u8 s884 (.tail _ <| .tail _ <| .head _) Fx.sl22 rfl hx915
            refine st_pr F913 (PR.op (ex_fab Fx.fa35_2 rfl rfl) <| PR.op (ex_ld Fx.nag22 rfl (s884.blk_cell (.head _) rfl)) <| PR.op (ex_move rfl) <| PR.op (hi917 _ _ _ _ _ _ _ _ _ _ rfl rfl) <| PR.nil) fun q919 F920 => ?_
            refine st_setel (y' := (255 : UInt8)) Flat.u8 F920 s884.f2 he918 hx915 rfl rfl (by rfl) Fx.sz5 fun w921 q922 F923 s924 => ?_
            refine st_end ?_
            refine blk_n ?_
            refine then_n ?_
            refine wp_reg ?_
            refine st_pr F923 (PR.op (ex_add rfl rfl) <| PR.op (ex_move rfl) <| PR.nil) fun q925 F926 => ?_
            refine st_end ?_
            obtain rfl := some_ok H
            refine then_n ?_
            exact ⟨_, rfl, v841, F926.sub ⟨rfl, rfl, rfl, rfl, rfl, rfl, trivial⟩, s924.f2.f2⟩
          · replace H := ite_f hb894 H
            refine wp_exit ?_
            refine then_x <| then_x <| blk_hit ?_
            obtain rfl := some_ok H
            obtain rfl := hr _ rfl
            refine then_n ?_
            exact ⟨v841, F892.sub ⟨rfl, rfl, rfl, trivial⟩, s884.drop⟩
      · intro q929 w930 hJ
        obtain ⟨v756, F927, s928⟩ := hJ
        have H := R755
        clear R755 H754
        refine then_n ?_
        refine wp_seq ?_
        refine wp_reg ?_
        obtain ⟨x959, hx960, H⟩ := bind_ok H
        refine st_pr F927 (PR.op (ex_move rfl) <| PR.nil) fun q961 F962 => ?_
        refine st_call (args := [.tmp 48]) F962 Fx.fn22 rfl (talk_Heard_c (a0 := x22.1)  (hv34.rd (s928.rd0 (.head _))) hx960) rfl fun v963 w964 q965 hS967 F966 => ?_
        obtain ⟨v970, rfl, hq969⟩ := hS967
        have s968 := s928.add hq969
        refine st_pr F966 (PR.op (ex_move rfl) <| PR.op (ex_extract (v := .agg ⟨[.int .i64 x959.1.Status, v970]⟩) rfl rfl) <| PR.op (ex_extract (v := .int .i64 x959.2) rfl rfl) <| PR.nil) fun q972 F973 => ?_
        refine st_alloc F973 s968 Fx.zero41 rfl rfl fun g974 w975 q976 F977 s978 => ?_
        have s984 := s978
        refine st_storea F977 s984 rfl rfl Fx.sz41 (one_cons rfl (one_cons (form_one (formL (s984.own_rd (.tail _ <| .head _)))) one_nil)) (Nat.le_of_ble_eq_true rfl) fun w980 q981 F982 s983 => ?_
        replace s983 : SL w [] w980 [Blk g974 41 [.int .i64 x959.1.Status, v970], Sl Ty.u8 v970 x959.1.Data, Sl Ty.u8 v35 x22.2, Sl Ty.u8 v756 o753] := s983
        refine st_pr F982 (PR.op (ex_asg rfl) <| PR.nil) fun q985 F986 => ?_
        refine st_end ?_
        refine then_n ?_
        refine wp_seq ?_
        refine wp_reg ?_
        obtain ⟨x1015, hx1016, H⟩ := bind_ok H
        refine st_pr F986 (PR.op (ex_move rfl) <| PR.nil) fun q1017 F1018 => ?_
        refine st_call (args := [.tmp 53]) F1018 Fx.fn23 rfl (provisoref24_Heard_c (a0 := a0)  (hr0.pass0 s983) hx1016) rfl fun v1019 w1020 q1021 hS1023 F1022 => ?_
        obtain ⟨v1026, rfl, hq1025⟩ := hS1023
        have s1024 := s983.add hq1025
        refine st_pr F1022 (PR.op (ex_move rfl) <| PR.op (ex_extract (v := .agg ⟨[.int .i64 x1015.1.Status, v1026]⟩) rfl rfl) <| PR.op (ex_extract (v := .int .i64 x1015.2) rfl rfl) <| PR.nil) fun q1028 F1029 => ?_
        refine st_alloc F1029 s1024 Fx.zero41 rfl rfl fun g1030 w1031 q1032 F1033 s1034 => ?_
        have s1040 := s1034
        refine st_storea F1033 s1040 rfl rfl Fx.sz41 (one_cons rfl (one_cons (form_one (formL (s1040.own_rd (.tail _ <| .head _)))) one_nil)) (Nat.le_of_ble_eq_true rfl) fun w1036 q1037 F1038 s1039 => ?_
        replace s1039 : SL w [] w1036 [Blk g1030 41 [.int .i64 x1015.1.Status, v1026], Sl Ty.u8 v1026 x1015.1.Data, Blk g974 41 [.int .i64 x959.1.Status, v970], Sl Ty.u8 v970 x959.1.Data, Sl Ty.u8 v35 x22.2, Sl Ty.u8 v756 o753] := s1039
        refine st_pr F1038 (PR.op (ex_asg rfl) <| PR.nil) fun q1041 F1042 => ?_
        refine st_end ?_
        refine then_n ?_
        refine wp_seq ?_
        refine wp_reg ?_
        refine st_pr F1042 (PR.op (ex_move rfl) <| PR.op (ex_move rfl) <| PR.op (ex_eq rfl rfl) <| PR.op (ex_move rfl) <| PR.nil) fun q1101 F1102 => ?_
        refine bool_split (x959.2 == x1015.2) (fun hb1103 => ?_) (fun hb1103 => ?_)
        · replace H := ite_t hb1103 H
          refine st_gop F1102 rfl rfl (look_b rfl hb1103) (ex_ldagg Fx.agg41 rfl (s1039.blk_cells (.tail _ <| .tail _ <| .head _) (o := 0) (ds := [.int .i64 x959.1.Status, v970]) (fun j u hu => by rw [Nat.zero_add]; exact hu)) rfl) rfl rfl fun q1104 F1105 => ?_
          refine st_gop F1105 rfl rfl (look_b rfl hb1103) (ex_ldagg Fx.agg41 rfl (s1039.blk_cells (.head _) (o := 0) (ds := [.int .i64 x1015.1.Status, v1026]) (fun j u hu => by rw [Nat.zero_add]; exact hu)) rfl) rfl rfl fun q1106 F1107 => ?_
          obtain ⟨x1108, hx1109, H⟩ := bind_ok H
          refine st_ungd F1107 rfl (look_b rfl hb1103) ?_
          refine st_call (args := [.tmp 61, .tmp 62]) F1107 Fx.fn24 rfl (provisolaw24_sameAnswer_c (a0 := (⟨x959.1.Status, x959.1.Data⟩ : S_api_Answer)) (a1 := (⟨x1015.1.Status, x1015.1.Data⟩ : S_api_Answer))  (s1039.rd0 (.tail _ <| .tail _ <| .tail _ <| .head _)) (s1039.rd0 (.tail _ <| .head _)) hx1109) rfl fun v1110 w1111 q1112 hS1114 F1113 => ?_
          obtain ⟨rfl, hq1116⟩ := hS1114
          have s1115 := s1039.add hq1116
          refine st_pr F1113 (PR.op (ex_pick_t (ev_b rfl hb1103) rfl) <| PR.op (ex_move rfl) <| PR.nil) fun q1117 F1118 => ?_
          refine bool_split x1108 (fun hb1119 => ?_) (fun hb1119 => ?_)
          · replace H := ite_t hb1119 H
            refine st_gop F1118 rfl rfl (look_b rfl hb1119) (ex_move rfl) rfl rfl fun q1120 F1121 => ?_
            refine st_gop F1121 rfl rfl (look_b rfl hb1119) (ex_move rfl) rfl rfl fun q1122 F1123 => ?_
            obtain ⟨x1124, hx1125, H⟩ := bind_ok H
            refine st_ungd F1123 rfl (look_b rfl hb1119) ?_
            refine st_call (args := [.tmp 66, .tmp 67]) F1123 Fx.fn14 rfl (provisoplain_Untouched_c (a0 := x22.2) (a1 := a0)  (s1115.rd0 (.tail _ <| .tail _ <| .tail _ <| .tail _ <| .head _)) (hr0.pass0 s1115) hx1125) rfl fun v1126 w1127 q1128 hS1130 F1129 => ?_
            obtain ⟨rfl, hq1132⟩ := hS1130
            have s1131 := s1115.add hq1132
            refine st_pr F1129 (PR.op (ex_pick_t (ev_b rfl hb1119) rfl) <| PR.op (ex_asg rfl) <| PR.nil) fun q1133 F1134 => ?_
            refine st_end ?_
            refine then_n ?_
            obtain rfl := some_ok H
            refine wp_ret ?_
            refine ret_gen (rs := [.tmp 2]) (vs := [.bool x1124]) F1134 (by rfl) ⟨_, _, rfl, RV.tmp rfl, rfl⟩ ⟨_, rfl, ⟨rfl, s1131.drop.drop.drop.drop.drop.drop⟩⟩
          · replace H := ite_f hb1119 H
            refine st_gskip F1118 rfl rfl (look_b rfl hb1119) Bool.noConfusion rfl rfl fun q1135 F1136 => ?_
            refine st_gskip F1136 rfl rfl (look_b rfl hb1119) Bool.noConfusion rfl rfl fun q1137 F1138 => ?_
            refine st_gskip F1138 rfl rfl (look_b rfl hb1119) Bool.noConfusion rfl rfl fun q1139 F1140 => ?_
            refine st_pr F1140 (PR.op (ex_pick_f (ev_b rfl hb1119) rfl) <| PR.op (ex_asg rfl) <| PR.nil) fun q1141 F1142 => ?_
            refine st_end ?_
            refine then_n ?_
            obtain rfl := some_ok H
            refine wp_ret ?_
            refine ret_gen (rs := [.tmp 2]) (vs := [.bool false]) F1142 (by rfl) ⟨_, _, rfl, RV.tmp rfl, rfl⟩ ⟨_, rfl, ⟨rfl, s1115.drop.drop.drop.drop.drop.drop⟩⟩
        · replace H := ite_f hb1103 H
          refine st_gskip F1102 rfl rfl (look_b rfl hb1103) Bool.noConfusion rfl rfl fun q1143 F1144 => ?_
          refine st_gskip F1144 rfl rfl (look_b rfl hb1103) Bool.noConfusion rfl rfl fun q1145 F1146 => ?_
          refine st_gskip F1146 rfl rfl (look_b rfl hb1103) Bool.noConfusion rfl rfl fun q1147 F1148 => ?_
          refine st_pr F1148 (PR.op (ex_pick_f (ev_b rfl hb1103) rfl) <| PR.op (ex_move rfl) <| PR.nil) fun q1149 F1150 => ?_
          refine st_gskip F1150 rfl rfl rfl Bool.noConfusion rfl rfl fun q1151 F1152 => ?_
          refine st_gskip F1152 rfl rfl rfl Bool.noConfusion rfl rfl fun q1153 F1154 => ?_
          refine st_gskip F1154 rfl rfl rfl Bool.noConfusion rfl rfl fun q1155 F1156 => ?_
          refine st_pr F1156 (PR.op (ex_pick_f rfl rfl) <| PR.op (ex_asg rfl) <| PR.nil) fun q1157 F1158 => ?_
          refine st_end ?_
          refine then_n ?_
          obtain rfl := some_ok H
          refine wp_ret ?_
          refine ret_gen (rs := [.tmp 2]) (vs := [.bool false]) F1158 (by rfl) ⟨_, _, rfl, RV.tmp rfl, rfl⟩ ⟨_, rfl, ⟨rfl, s1039.drop.drop.drop.drop.drop.drop⟩⟩
end Go.Proofs.Ytpcdphfneidalaa
