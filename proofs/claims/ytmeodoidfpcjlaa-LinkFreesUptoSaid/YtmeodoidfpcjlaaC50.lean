/- The walk of proviso/provisoref04.Decode. -/
import Derived.Test.YtmeodoidfpcjlaaFx
import Derived.Test.YtmeodoidfpcjlaaDf
import Derived.Test.YtmeodoidfpcjlaaC51
import Derived.Test.YtmeodoidfpcjlaaC69
import Derived.Test.YtmeodoidfpcjlaaC70
set_option linter.unusedVariables false
set_option linter.unusedSimpArgs false
namespace Go.Proofs.Ytmeodoidfpcjlaa
open Go Go.RowKit Go.Pv
theorem provisoref04_Decode_c {w : World} {v0 : Value} {a0 : List UInt8} {a1 : Int} {r : S_api_Instr × Int} (hr0 : Rd Ty.u8 w [] v0 a0) (H : provisoref04_Decode a0 a1 = some r) :
    Calls Try.prog 50 #[v0, .int .i64 a1] w (Ret fun u_ w_ => u_ = .tuple ⟨[.agg ⟨[.int .i64 r.1.At, .int .u8 (r.1.Op.toNat : Int), .int .i64 r.1.A, .int .i64 r.1.B]⟩, .int .i64 r.2]⟩ ∧ SL w [] w_ []) := by
  have s0 : SL w [] w [] := SL.init0 w
  refine call_enter Try.func50 rfl Try.ntmps50 (Nat.le_of_ble_eq_true rfl) (args := [v0, .int .i64 a1]) fun q0 F0 => ?_
  unfold provisoref04_Decode at H
  refine wp_seq ?_
  refine wp_reg ?_
  refine st_alloc F0 s0 Fx.zero90 rfl rfl fun g9 w10 q11 F12 s13 => ?_
  refine st_pr F12 (PR.op (ex_asg rfl) <| PR.nil) fun q15 F16 => ?_
  refine st_end ?_
  refine then_n ?_
  refine wp_seq ?_
  refine wp_reg ?_
  refine st_alloc F16 s13 Fx.zero90 rfl rfl fun g23 w24 q25 F26 s27 => ?_
  refine st_end ?_
  refine then_n ?_
  refine wp_seq ?_
  refine wp_seq ?_
  refine wp_reg ?_
  refine st_pr F26 (PR.op (ex_move rfl) <| PR.op (ex_lt rfl rfl) <| PR.op (ex_move rfl) <| PR.nil) fun q89 F90 => ?_
  refine bool_split (decide (a1 < 0)) (fun hb91 => ?_) (fun hb91 => ?_)
  · replace H := ite_t hb91 H
    refine st_gskip F90 rfl rfl (look_b rfl hb91) Bool.noConfusion rfl rfl fun q92 F93 => ?_
    refine st_gskip F93 rfl rfl (look_b rfl hb91) Bool.noConfusion rfl rfl fun q94 F95 => ?_
    refine st_gskip F95 rfl rfl (look_b rfl hb91) Bool.noConfusion rfl rfl fun q96 F97 => ?_
    refine st_gskip F97 rfl rfl (look_b rfl hb91) Bool.noConfusion rfl rfl fun q98 F99 => ?_
    refine st_pr F99 (PR.op (ex_pick_t (ev_b rfl hb91) rfl) <| PR.nil) fun q100 F101 => ?_
    refine st_end ?_
    refine then_n ?_
    refine wp_if_t F101 rfl ?_
    refine wp_seq ?_
    refine wp_reg ?_
    refine st_pr F101 (PR.op (ex_ldagg Fx.agg90 rfl (s27.blk_cells (.head _) (o := 0) (ds := [.int .i64 0, .int .u8 0, .int .i64 0, .int .i64 0]) (fun j u hu => by rw [Nat.zero_add]; exact hu)) rfl) <| PR.nil) fun q111 F112 => ?_
    have s117 := s27.f1
    refine st_storea F112 s117 rfl rfl Fx.sz90 (one_cons rfl (one_cons rfl (one_cons rfl (one_cons rfl one_nil)))) (Nat.le_of_ble_eq_true rfl) fun w113 q114 F115 s116 => ?_
    replace s116 : SL w [] w113 [Blk g9 90 [.int .i64 0, .int .u8 0, .int .i64 0, .int .i64 0], Blk g23 90 [.int .i64 0, .int .u8 0, .int .i64 0, .int .i64 0]] := s116
    refine st_pr F115 (PR.op (ex_asg rfl) <| PR.nil) fun q118 F119 => ?_
    refine st_end ?_
    refine then_n ?_
    obtain rfl := some_ok H
    refine wp_ret ?_
    refine then_r ?_
    refine ret_gen (rs := [.cell 4 90, .tmp 5]) (vs := [.agg ⟨[.int .i64 0, .int .u8 0, .int .i64 0, .int .i64 0]⟩, .int .i64 1]) F119 (by rfl) ⟨_, _, rfl, RV.blk s116 (.head _) rfl Fx.agg90 rfl, _, _, rfl, RV.tmp rfl, rfl⟩ ⟨_, rfl, ⟨rfl, s116.drop.drop⟩⟩
  · replace H := ite_f hb91 H
    refine st_gop F90 rfl rfl (look_b rfl hb91) (ex_move rfl) rfl rfl fun q120 F121 => ?_
    refine st_gop F121 rfl rfl (look_b rfl hb91) (ex_move rfl) rfl rfl fun q122 F123 => ?_
    refine st_gop F123 rfl rfl (look_b rfl hb91) (ex_len rfl Try.underlying22 (formL (rdL hr0 s27))) rfl rfl fun q124 F125 => ?_
    refine st_gop F125 rfl rfl (look_b rfl hb91) (ex_gt rfl rfl) rfl rfl fun q126 F127 => ?_
    refine st_pr F127 (PR.op (ex_pick_f (ev_b rfl hb91) rfl) <| PR.nil) fun q128 F129 => ?_
    refine st_end ?_
    refine then_n ?_
    refine wp_if F129 rfl (fun hb130 => ?_) (fun hb130 => ?_)
    · replace H := ite_t hb130 H
      refine wp_seq ?_
      refine wp_reg ?_
      refine st_pr F129 (PR.op (ex_ldagg Fx.agg90 rfl (s27.blk_cells (.head _) (o := 0) (ds := [.int .i64 0, .int .u8 0, .int .i64 0, .int .i64 0]) (fun j u hu => by rw [Nat.zero_add]; exact hu)) rfl) <| PR.nil) fun q140 F141 => ?_
      have s146 := s27.f1
      refine st_storea F141 s146 rfl rfl Fx.sz90 (one_cons rfl (one_cons rfl (one_cons rfl (one_cons rfl one_nil)))) (Nat.le_of_ble_eq_true rfl) fun w142 q143 F144 s145 => ?_
      replace s145 : SL w [] w142 [Blk g9 90 [.int .i64 0, .int .u8 0, .int .i64 0, .int .i64 0], Blk g23 90 [.int .i64 0, .int .u8 0, .int .i64 0, .int .i64 0]] := s145
      refine st_pr F144 (PR.op (ex_asg rfl) <| PR.nil) fun q147 F148 => ?_
      refine st_end ?_
      refine then_n ?_
      obtain rfl := some_ok H
      refine wp_ret ?_
      refine then_r ?_
      refine ret_gen (rs := [.cell 4 90, .tmp 5]) (vs := [.agg ⟨[.int .i64 0, .int .u8 0, .int .i64 0, .int .i64 0]⟩, .int .i64 1]) F148 (by rfl) ⟨_, _, rfl, RV.blk s145 (.head _) rfl Fx.agg90 rfl, _, _, rfl, RV.tmp rfl, rfl⟩ ⟨_, rfl, ⟨rfl, s145.drop.drop⟩⟩
    · replace H := ite_f hb130 H
      refine wp_skip ?_
      refine then_n ?_
      refine wp_seq ?_
      refine wp_seq ?_
      refine wp_reg ?_
      refine st_pr F129 (PR.op (ex_move rfl) <| PR.op (ex_move rfl) <| PR.op (ex_len rfl Try.underlying22 (formL (rdL hr0 s27))) <| PR.op (ex_eq rfl rfl) <| PR.nil) fun q174 F175 => ?_
      refine st_end ?_
      refine then_n ?_
      refine wp_if F175 rfl (fun hb176 => ?_) (fun hb176 => ?_)
      · replace H := ite_t hb176 H
        refine wp_seq ?_
        refine wp_reg ?_
        refine st_pr F175 (PR.op (ex_ldagg Fx.agg90 rfl (s27.blk_cells (.head _) (o := 0) (ds := [.int .i64 0, .int .u8 0, .int .i64 0, .int .i64 0]) (fun j u hu => by rw [Nat.zero_add]; exact hu)) rfl) <| PR.nil) fun q186 F187 => ?_
        have s192 := s27.f1
        refine st_storea F187 s192 rfl rfl Fx.sz90 (one_cons rfl (one_cons rfl (one_cons rfl (one_cons rfl one_nil)))) (Nat.le_of_ble_eq_true rfl) fun w188 q189 F190 s191 => ?_
        replace s191 : SL w [] w188 [Blk g9 90 [.int .i64 0, .int .u8 0, .int .i64 0, .int .i64 0], Blk g23 90 [.int .i64 0, .int .u8 0, .int .i64 0, .int .i64 0]] := s191
        refine st_pr F190 (PR.op (ex_asg rfl) <| PR.nil) fun q193 F194 => ?_
        refine st_end ?_
        refine then_n ?_
        obtain rfl := some_ok H
        refine wp_ret ?_
        refine then_r ?_
        refine ret_gen (rs := [.cell 4 90, .tmp 5]) (vs := [.agg ⟨[.int .i64 0, .int .u8 0, .int .i64 0, .int .i64 0]⟩, .int .i64 2]) F194 (by rfl) ⟨_, _, rfl, RV.blk s191 (.head _) rfl Fx.agg90 rfl, _, _, rfl, RV.tmp rfl, rfl⟩ ⟨_, rfl, ⟨rfl, s191.drop.drop⟩⟩
      · replace H := ite_f hb176 H
        refine wp_skip ?_
        refine then_n ?_
        refine wp_seq ?_
        refine wp_reg ?_
        obtain ⟨x202, hx203, H⟩ := bind_ok H
        obtain ⟨ad204, hi205, hc206⟩ := idxL Flat.u8 (rdL hr0 s27) Fx.sl22 rfl hx203
        refine st_pr F175 (PR.op (ex_move rfl) <| PR.op (ex_move rfl) <| PR.op (hi205 _ _ _ _ _ _ _ _ _ _ rfl rfl) <| PR.op (ex_ld Fx.nag5 rfl (Cells.at_ hc206 (o := 0) rfl)) <| PR.op (ex_asg rfl) <| PR.nil) fun q207 F208 => ?_
        refine st_end ?_
        refine then_n ?_
        refine wp_seq ?_
        refine wp_reg ?_
        obtain ⟨x222, hx223, H⟩ := bind_ok H
        refine st_pr F208 (PR.op (ex_move rfl) <| PR.nil) fun q224 F225 => ?_
        refine st_call (args := [.tmp 30]) F225 Fx.fn51 rfl (provisoref04_Size_c (a0 := x202)   hx223) rfl fun v226 w227 q228 hS230 F229 => ?_
        obtain ⟨rfl, hq232⟩ := hS230
        have s231 := s27.add hq232
        refine st_pr F229 (PR.op (ex_asg rfl) <| PR.nil) fun q233 F234 => ?_
        refine st_end ?_
        refine then_n ?_
        refine wp_seq ?_
        refine wp_seq ?_
        refine wp_reg ?_
        refine st_pr F234 (PR.op (ex_move rfl) <| PR.op (ex_eq rfl rfl) <| PR.nil) fun q260 F261 => ?_
        refine st_end ?_
        refine then_n ?_
        refine wp_if F261 rfl (fun hb262 => ?_) (fun hb262 => ?_)
        · replace H := ite_t hb262 H
          refine wp_seq ?_
          refine wp_reg ?_
          refine st_pr F261 (PR.op (ex_ldagg Fx.agg90 rfl (s231.blk_cells (.head _) (o := 0) (ds := [.int .i64 0, .int .u8 0, .int .i64 0, .int .i64 0]) (fun j u hu => by rw [Nat.zero_add]; exact hu)) rfl) <| PR.nil) fun q272 F273 => ?_
          have s278 := s231.f1
          refine st_storea F273 s278 rfl rfl Fx.sz90 (one_cons rfl (one_cons rfl (one_cons rfl (one_cons rfl one_nil)))) (Nat.le_of_ble_eq_true rfl) fun w274 q275 F276 s277 => ?_
          replace s277 : SL w [] w274 [Blk g9 90 [.int .i64 0, .int .u8 0, .int .i64 0, .int .i64 0], Blk g23 90 [.int .i64 0, .int .u8 0, .int .i64 0, .int .i64 0]] := s277
          refine st_pr F276 (PR.op (ex_asg rfl) <| PR.nil) fun q279 F280 => ?_
          refine st_end ?_
          refine then_n ?_
          obtain rfl := some_ok H
          refine wp_ret ?_
          refine then_r ?_
          refine ret_gen (rs := [.cell 4 90, .tmp 5]) (vs := [.agg ⟨[.int .i64 0, .int .u8 0, .int .i64 0, .int .i64 0]⟩, .int .i64 40]) F280 (by rfl) ⟨_, _, rfl, RV.blk s277 (.head _) rfl Fx.agg90 rfl, _, _, rfl, RV.tmp rfl, rfl⟩ ⟨_, rfl, ⟨rfl, s277.drop.drop⟩⟩
        · replace H := ite_f hb262 H
          refine wp_skip ?_
          refine then_n ?_
          refine wp_seq ?_
          refine wp_seq ?_
          refine wp_reg ?_
          refine st_pr F261 (PR.op (ex_move rfl) <| PR.op (ex_len rfl Try.underlying22 (formL (rdL hr0 s231))) <| PR.op (ex_move rfl) <| PR.op (ex_sub rfl rfl) <| PR.op (ex_move rfl) <| PR.op (ex_lt rfl rfl) <| PR.nil) fun q306 F307 => ?_
          refine st_end ?_
          refine then_n ?_
          refine wp_if F307 rfl (fun hb308 => ?_) (fun hb308 => ?_)
          · replace H := ite_t hb308 H
            refine wp_seq ?_
            refine wp_reg ?_
            refine st_pr F307 (PR.op (ex_ldagg Fx.agg90 rfl (s231.blk_cells (.head _) (o := 0) (ds := [.int .i64 0, .int .u8 0, .int .i64 0, .int .i64 0]) (fun j u hu => by rw [Nat.zero_add]; exact hu)) rfl) <| PR.nil) fun q318 F319 => ?_
            have s324 := s231.f1
            refine st_storea F319 s324 rfl rfl Fx.sz90 (one_cons rfl (one_cons rfl (one_cons rfl (one_cons rfl one_nil)))) (Nat.le_of_ble_eq_true rfl) fun w320 q321 F322 s323 => ?_
            replace s323 : SL w [] w320 [Blk g9 90 [.int .i64 0, .int .u8 0, .int .i64 0, .int .i64 0], Blk g23 90 [.int .i64 0, .int .u8 0, .int .i64 0, .int .i64 0]] := s323
            refine st_pr F322 (PR.op (ex_asg rfl) <| PR.nil) fun q325 F326 => ?_
            refine st_end ?_
            refine then_n ?_
            obtain rfl := some_ok H
            refine wp_ret ?_
            refine then_r ?_
            refine ret_gen (rs := [.cell 4 90, .tmp 5]) (vs := [.agg ⟨[.int .i64 0, .int .u8 0, .int .i64 0, .int .i64 0]⟩, .int .i64 2]) F326 (by rfl) ⟨_, _, rfl, RV.blk s323 (.head _) rfl Fx.agg90 rfl, _, _, rfl, RV.tmp rfl, rfl⟩ ⟨_, rfl, ⟨rfl, s323.drop.drop⟩⟩
          · replace H := ite_f hb308 H
            refine wp_skip ?_
            refine then_n ?_
            refine wp_seq ?_
            refine wp_reg ?_
            obtain ⟨x340, hx341, H⟩ := bind_ok H
            refine st_pr F307 (PR.op (ex_move rfl) <| PR.nil) fun q342 F343 => ?_
            refine st_call (args := [.tmp 43]) F343 Fx.fn69 rfl (provisoref04_wide_c (a0 := x202)   hx341) rfl fun v344 w345 q346 hS348 F347 => ?_
            obtain ⟨rfl, hq350⟩ := hS348
            have s349 := s231.add hq350
            refine st_pr F347 (PR.op (ex_move rfl) <| PR.op (ex_extract (v := .int .i64 x340.1) rfl rfl) <| PR.op (ex_extract (v := .int .i64 x340.2) rfl rfl) <| PR.op (ex_asg rfl) <| PR.op (ex_asg rfl) <| PR.nil) fun q351 F352 => ?_
            refine st_end ?_
            refine then_n ?_
            refine wp_seq ?_
            obtain ⟨o799, H800, R801⟩ := bind_ok H
            clear H
            refine wp_cutn (fun a w_ => ∃ g802 : Nat, Fr a 73 [(4, .pointer (some ⟨g9, 0, none⟩)), (6, .pointer (some ⟨g23, 0, none⟩)), (7, .int .u8 (x202.toNat : Int)), (11, .pointer (some ⟨g802, 0, none⟩))] ∧ SL w [] w_ [Blk g23 90 [.int .i64 0, .int .u8 0, .int .i64 0, .int .i64 0], Blk g9 90 [.int .i64 0, .int .u8 0, .int .i64 0, .int .i64 0], Blk g802 90 [.int .i64 a1, .int .u8 (x202.toNat : Int), .int .i64 o799.1, .int .i64 o799.2]]) ?_ ?_
            · have H := H800
              obtain ⟨x818, hx819, H⟩ := bind_ok H
              obtain ⟨x823, hx824, H⟩ := bind_ok H
              obtain ⟨x832, hx833, H⟩ := bind_ok H
              obtain ⟨x837, hx838, H⟩ := bind_ok H
              refine wp_regh Fx.mixed (fun w_ => SL w [] w_ [Blk g23 90 [.int .i64 0, .int .u8 0, .int .i64 0, .int .i64 0], Blk g9 90 [.int .i64 0, .int .u8 0, .int .i64 0, .int .i64 0]]) ?_
              have s857 := s349.drew
              have s858 : SL w [] _ [Blk g23 90 [.int .i64 0, .int .u8 0, .int .i64 0, .int .i64 0], Blk g9 90 [.int .i64 0, .int .u8 0, .int .i64 0, .int .i64 0]] := s857
              refine hd_take (i := 0) rfl (by kernel_rfl) (by kernel_rfl) (by kernel_rfl) (fun _ hC => ex_move rfl) rfl rfl rfl F352 s858 fun q859 F860 => ?_
              refine hd_take (i := 1) rfl (by kernel_rfl) (by kernel_rfl) (by kernel_rfl) (fun _ hC => ex_move rfl) rfl rfl rfl F860 s858 fun q861 F862 => ?_
              refine hd_take (i := 2) rfl (by kernel_rfl) (by kernel_rfl) (by kernel_rfl) (fun _ hC => ex_move rfl) rfl rfl rfl F862 s858 fun q863 F864 => ?_
              refine hd_take (i := 3) rfl (by kernel_rfl) (by kernel_rfl) (by kernel_rfl) (fun _ hC => ex_move rfl) rfl rfl rfl F864 s858 fun q865 F866 => ?_
              refine hd_take (i := 4) rfl (by kernel_rfl) (by kernel_rfl) (by kernel_rfl) (fun _ hC => ex_add rfl rfl) rfl rfl rfl F866 s858 fun q867 F868 => ?_
              obtain ⟨v871, hsc872, hv873⟩ := Rd.cut hr0 Fx.sl22 rfl hx819 (some (wr (a1 + 1))) none (.inl rfl) (.inr ⟨rfl, rfl⟩)
              refine hd_take (i := 5) rfl (by kernel_rfl) (by kernel_rfl) (by kernel_rfl) (fun _ hC => hsc872 _ _ _ _ _ .i64 .i64 _ _ _ _ _ rfl rfl trivial) rfl rfl rfl F868 s858 fun q874 F875 => ?_
              refine hd_take (i := 6) rfl (by kernel_rfl) (by kernel_rfl) (by kernel_rfl) (fun _ hC => ex_move rfl) rfl rfl rfl F875 s858 fun q876 F877 => ?_
              refine hd_take (i := 8) rfl (by kernel_rfl) (by kernel_rfl) (by kernel_rfl) (fun _ hC => ex_move rfl) rfl rfl rfl F877 s858 fun q880 F881 => ?_
              refine hd_take (i := 9) rfl (by kernel_rfl) (by kernel_rfl) (by kernel_rfl) (fun _ hC => ex_move rfl) rfl rfl rfl F881 s858 fun q884 F885 => ?_
              refine hd_take (i := 10) rfl (by kernel_rfl) (by kernel_rfl) (by kernel_rfl) (fun _ hC => ex_add rfl rfl) rfl rfl rfl F885 s858 fun q888 F889 => ?_
              refine hd_take (i := 11) rfl (by kernel_rfl) (by kernel_rfl) (by kernel_rfl) (fun _ hC => ex_move rfl) rfl rfl rfl F889 s858 fun q892 F893 => ?_
              refine hd_take (i := 12) rfl (by kernel_rfl) (by kernel_rfl) (by kernel_rfl) (fun _ hC => ex_add rfl rfl) rfl rfl rfl F893 s858 fun q896 F897 => ?_
              obtain ⟨v902, hsc903, hv904⟩ := Rd.cut hr0 Fx.sl22 rfl hx833 (some (wr ((wr (a1 + 1)) + x340.1))) none (.inl rfl) (.inr ⟨rfl, rfl⟩)
              refine hd_take (i := 13) rfl (by kernel_rfl) (by kernel_rfl) (by kernel_rfl) (fun _ hC => hsc903 _ _ _ _ _ .i64 .i64 _ _ _ _ _ rfl rfl trivial) rfl rfl rfl F897 s858 fun q905 F906 => ?_
              refine hd_take (i := 14) rfl (by kernel_rfl) (by kernel_rfl) (by kernel_rfl) (fun _ hC => ex_move rfl) rfl rfl rfl F906 s858 fun q909 F910 => ?_
              refine hd_many (rs := [7, 17]) (by kernel_rfl) (by decide) (hd_cons (wpOp_of rfl ?_) (hd_cons (wpOp_of rfl ?_) (hd_nil)))
              · refine st_call (args := [.tmp 52, .tmp 53]) F910 Fx.fn70 rfl (provisoref04_take_c (a0 := x818) (a1 := x340.1)  (hv873.pass0 s857) hx824) rfl fun v915 w916 q917 hS919 F918 => ?_
                obtain ⟨rfl, hq921⟩ := hS919
                have s920 := s857.add hq921
                have s922 : SL w [] _ [Blk g23 90 [.int .i64 0, .int .u8 0, .int .i64 0, .int .i64 0], Blk g9 90 [.int .i64 0, .int .u8 0, .int .i64 0, .int .i64 0]] := s920
                refine kq_end ⟨s922, ?_⟩
                refine hd_many (rs := [15, 17]) (by kernel_rfl) (by decide) (hd_cons (wpOp_of rfl ?_) (hd_cons (wpOp_of rfl ?_) (hd_nil)))
                · refine st_call (args := [.tmp 60, .tmp 61]) F918 Fx.fn70 rfl (provisoref04_take_c (a0 := x832) (a1 := x340.2)  (hv904.pass0 s920) hx838) rfl fun v925 w926 q927 hS929 F928 => ?_
                  obtain ⟨rfl, hq931⟩ := hS929
                  have s930 := s920.add hq931
                  have s932 : SL w [] _ [Blk g23 90 [.int .i64 0, .int .u8 0, .int .i64 0, .int .i64 0], Blk g9 90 [.int .i64 0, .int .u8 0, .int .i64 0, .int .i64 0]] := s930
                  refine kq_end ⟨s932, ?_⟩
                  refine hd_many (rs := [16, 17]) (by kernel_rfl) (by decide) (hd_cons (wpOp_of rfl ?_) (hd_cons (wpOp_of rfl ?_) (hd_nil)))
                  · refine st_op F928 (ex_build (vs := [.int .i64 a1, .int .u8 (x202.toNat : Int), .int .i64 x823, .int .i64 x837]) Fx.zero90 Fx.pl90 rfl (cs := [.int .i64 a1, .int .u8 (x202.toNat : Int), .int .i64 x823, .int .i64 x837]) (rfl)) rfl rfl rfl fun q933 F934 => ?_
                    have s935 : SL w [] _ [Blk g23 90 [.int .i64 0, .int .u8 0, .int .i64 0, .int .i64 0], Blk g9 90 [.int .i64 0, .int .u8 0, .int .i64 0, .int .i64 0]] := s930
                    refine kq_end ⟨s935, ?_⟩
                    refine hd_one (i := 17) rfl (by kernel_rfl) ?_
                    refine st_alloc F934 s930 Fx.zero90 rfl rfl fun g936 w937 q938 F939 s940 => ?_
                    have s942 : SL w [] _ [Blk g23 90 [.int .i64 0, .int .u8 0, .int .i64 0, .int .i64 0], Blk g9 90 [.int .i64 0, .int .u8 0, .int .i64 0, .int .i64 0]] := s940.drop
                    refine kq_end ⟨s942, ?_⟩
                    refine hd_one (i := 18) rfl (by kernel_rfl) ?_
                    have s947 := s940
                    refine st_storea F939 s947 rfl rfl Fx.sz90 (one_cons rfl (one_cons rfl (one_cons rfl (one_cons rfl one_nil)))) (Nat.le_of_ble_eq_true rfl) fun w943 q944 F945 s946 => ?_
                    replace s946 : SL w [] w943 [Blk g936 90 [.int .i64 a1, .int .u8 (x202.toNat : Int), .int .i64 x823, .int .i64 x837], Blk g23 90 [.int .i64 0, .int .u8 0, .int .i64 0, .int .i64 0], Blk g9 90 [.int .i64 0, .int .u8 0, .int .i64 0, .int .i64 0]] := s946
                    have s948 : SL w [] _ [Blk g23 90 [.int .i64 0, .int .u8 0, .int .i64 0, .int .i64 0], Blk g9 90 [.int .i64 0, .int .u8 0, .int .i64 0, .int .i64 0]] := s946.drop
                    refine kq_end ⟨s948, ?_⟩
                    refine hd_done (by kernel_rfl) ?_
                    obtain rfl := some_ok H
                    refine then_n ?_
                    exact ⟨g936, F945.sub ⟨rfl, rfl, rfl, rfl, trivial⟩, s946.f2.f2⟩
                  · refine st_alloc F928 s930 Fx.zero90 rfl rfl fun g949 w950 q951 F952 s953 => ?_
                    have s955 : SL w [] _ [Blk g23 90 [.int .i64 0, .int .u8 0, .int .i64 0, .int .i64 0], Blk g9 90 [.int .i64 0, .int .u8 0, .int .i64 0, .int .i64 0]] := s953.drop
                    refine kq_end ⟨s955, ?_⟩
                    refine hd_one (i := 16) rfl (by kernel_rfl) ?_
                    refine st_op F952 (ex_build (vs := [.int .i64 a1, .int .u8 (x202.toNat : Int), .int .i64 x823, .int .i64 x837]) Fx.zero90 Fx.pl90 rfl (cs := [.int .i64 a1, .int .u8 (x202.toNat : Int), .int .i64 x823, .int .i64 x837]) (rfl)) rfl rfl rfl fun q956 F957 => ?_
                    have s958 : SL w [] _ [Blk g23 90 [.int .i64 0, .int .u8 0, .int .i64 0, .int .i64 0], Blk g9 90 [.int .i64 0, .int .u8 0, .int .i64 0, .int .i64 0]] := s953.drop
                    refine kq_end ⟨s958, ?_⟩
                    refine hd_one (i := 18) rfl (by kernel_rfl) ?_
                    have s963 := s953
                    refine st_storea F957 s963 rfl rfl Fx.sz90 (one_cons rfl (one_cons rfl (one_cons rfl (one_cons rfl one_nil)))) (Nat.le_of_ble_eq_true rfl) fun w959 q960 F961 s962 => ?_
                    replace s962 : SL w [] w959 [Blk g949 90 [.int .i64 a1, .int .u8 (x202.toNat : Int), .int .i64 x823, .int .i64 x837], Blk g23 90 [.int .i64 0, .int .u8 0, .int .i64 0, .int .i64 0], Blk g9 90 [.int .i64 0, .int .u8 0, .int .i64 0, .int .i64 0]] := s962
                    have s964 : SL w [] _ [Blk g23 90 [.int .i64 0, .int .u8 0, .int .i64 0, .int .i64 0], Blk g9 90 [.int .i64 0, .int .u8 0, .int .i64 0, .int .i64 0]] := s962.drop
                    refine kq_end ⟨s964, ?_⟩
                    refine hd_done (by kernel_rfl) ?_
                    obtain rfl := some_ok H
                    refine then_n ?_
                    exact ⟨g949, F961.sub ⟨rfl, rfl, rfl, rfl, trivial⟩, s962.f2.f2⟩
                · refine st_alloc F918 s920 Fx.zero90 rfl rfl fun g965 w966 q967 F968 s969 => ?_
                  have s971 : SL w [] _ [Blk g23 90 [.int .i64 0, .int .u8 0, .int .i64 0, .int .i64 0], Blk g9 90 [.int .i64 0, .int .u8 0, .int .i64 0, .int .i64 0]] := s969.drop
                  refine kq_end ⟨s971, ?_⟩
                  refine hd_one (i := 15) rfl (by kernel_rfl) ?_
                  refine st_call (args := [.tmp 60, .tmp 61]) F968 Fx.fn70 rfl (provisoref04_take_c (a0 := x832) (a1 := x340.2)  (hv904.pass0 s969) hx838) rfl fun v974 w975 q976 hS978 F977 => ?_
                  obtain ⟨rfl, hq980⟩ := hS978
                  have s979 := s969.add hq980
                  have s981 : SL w [] _ [Blk g23 90 [.int .i64 0, .int .u8 0, .int .i64 0, .int .i64 0], Blk g9 90 [.int .i64 0, .int .u8 0, .int .i64 0, .int .i64 0]] := s979.drop
                  refine kq_end ⟨s981, ?_⟩
                  refine hd_one (i := 16) rfl (by kernel_rfl) ?_
                  refine st_op F977 (ex_build (vs := [.int .i64 a1, .int .u8 (x202.toNat : Int), .int .i64 x823, .int .i64 x837]) Fx.zero90 Fx.pl90 rfl (cs := [.int .i64 a1, .int .u8 (x202.toNat : Int), .int .i64 x823, .int .i64 x837]) (rfl)) rfl rfl rfl fun q982 F983 => ?_
                  have s984 : SL w [] _ [Blk g23 90 [.int .i64 0, .int .u8 0, .int .i64 0, .int .i64 0], Blk g9 90 [.int .i64 0, .int .u8 0, .int .i64 0, .int .i64 0]] := s979.drop
                  refine kq_end ⟨s984, ?_⟩
                  refine hd_one (i := 18) rfl (by kernel_rfl) ?_
                  have s989 := s979
                  refine st_storea F983 s989 rfl rfl Fx.sz90 (one_cons rfl (one_cons rfl (one_cons rfl (one_cons rfl one_nil)))) (Nat.le_of_ble_eq_true rfl) fun w985 q986 F987 s988 => ?_
                  replace s988 : SL w [] w985 [Blk g965 90 [.int .i64 a1, .int .u8 (x202.toNat : Int), .int .i64 x823, .int .i64 x837], Blk g23 90 [.int .i64 0, .int .u8 0, .int .i64 0, .int .i64 0], Blk g9 90 [.int .i64 0, .int .u8 0, .int .i64 0, .int .i64 0]] := s988
                  have s990 : SL w [] _ [Blk g23 90 [.int .i64 0, .int .u8 0, .int .i64 0, .int .i64 0], Blk g9 90 [.int .i64 0, .int .u8 0, .int .i64 0, .int .i64 0]] := s988.drop
                  refine kq_end ⟨s990, ?_⟩
                  refine hd_done (by kernel_rfl) ?_
                  obtain rfl := some_ok H
                  refine then_n ?_
                  exact ⟨g965, F987.sub ⟨rfl, rfl, rfl, rfl, trivial⟩, s988.f2.f2⟩
              · refine st_alloc F910 s857 Fx.zero90 rfl rfl fun g991 w992 q993 F994 s995 => ?_
                have s997 : SL w [] _ [Blk g23 90 [.int .i64 0, .int .u8 0, .int .i64 0, .int .i64 0], Blk g9 90 [.int .i64 0, .int .u8 0, .int .i64 0, .int .i64 0]] := s995.drop
                refine kq_end ⟨s997, ?_⟩
                refine hd_one (i := 7) rfl (by kernel_rfl) ?_
                refine st_call (args := [.tmp 52, .tmp 53]) F994 Fx.fn70 rfl (provisoref04_take_c (a0 := x818) (a1 := x340.1)  (hv873.pass0 s995) hx824) rfl fun v1000 w1001 q1002 hS1004 F1003 => ?_
                obtain ⟨rfl, hq1006⟩ := hS1004
                have s1005 := s995.add hq1006
                have s1007 : SL w [] _ [Blk g23 90 [.int .i64 0, .int .u8 0, .int .i64 0, .int .i64 0], Blk g9 90 [.int .i64 0, .int .u8 0, .int .i64 0, .int .i64 0]] := s1005.drop
                refine kq_end ⟨s1007, ?_⟩
                refine hd_one (i := 15) rfl (by kernel_rfl) ?_
                refine st_call (args := [.tmp 60, .tmp 61]) F1003 Fx.fn70 rfl (provisoref04_take_c (a0 := x832) (a1 := x340.2)  (hv904.pass0 s1005) hx838) rfl fun v1010 w1011 q1012 hS1014 F1013 => ?_
                obtain ⟨rfl, hq1016⟩ := hS1014
                have s1015 := s1005.add hq1016
                have s1017 : SL w [] _ [Blk g23 90 [.int .i64 0, .int .u8 0, .int .i64 0, .int .i64 0], Blk g9 90 [.int .i64 0, .int .u8 0, .int .i64 0, .int .i64 0]] := s1015.drop
                refine kq_end ⟨s1017, ?_⟩
                refine hd_one (i := 16) rfl (by kernel_rfl) ?_
                refine st_op F1013 (ex_build (vs := [.int .i64 a1, .int .u8 (x202.toNat : Int), .int .i64 x823, .int .i64 x837]) Fx.zero90 Fx.pl90 rfl (cs := [.int .i64 a1, .int .u8 (x202.toNat : Int), .int .i64 x823, .int .i64 x837]) (rfl)) rfl rfl rfl fun q1018 F1019 => ?_
                have s1020 : SL w [] _ [Blk g23 90 [.int .i64 0, .int .u8 0, .int .i64 0, .int .i64 0], Blk g9 90 [.int .i64 0, .int .u8 0, .int .i64 0, .int .i64 0]] := s1015.drop
                refine kq_end ⟨s1020, ?_⟩
                refine hd_one (i := 18) rfl (by kernel_rfl) ?_
                have s1025 := s1015
                refine st_storea F1019 s1025 rfl rfl Fx.sz90 (one_cons rfl (one_cons rfl (one_cons rfl (one_cons rfl one_nil)))) (Nat.le_of_ble_eq_true rfl) fun w1021 q1022 F1023 s1024 => ?_
                replace s1024 : SL w [] w1021 [Blk g991 90 [.int .i64 a1, .int .u8 (x202.toNat : Int), .int .i64 x823, .int .i64 x837], Blk g23 90 [.int .i64 0, .int .u8 0, .int .i64 0, .int .i64 0], Blk g9 90 [.int .i64 0, .int .u8 0, .int .i64 0, .int .i64 0]] := s1024
                have s1026 : SL w [] _ [Blk g23 90 [.int .i64 0, .int .u8 0, .int .i64 0, .int .i64 0], Blk g9 90 [.int .i64 0, .int .u8 0, .int .i64 0, .int .i64 0]] := s1024.drop
                refine kq_end ⟨s1026, ?_⟩
                refine hd_done (by kernel_rfl) ?_
                obtain rfl := some_ok H
                refine then_n ?_
                exact ⟨g991, F1023.sub ⟨rfl, rfl, rfl, rfl, trivial⟩, s1024.f2.f2⟩
            · intro q1029 w1030 hJ
              obtain ⟨g802, F1027, s1028⟩ := hJ
              have H := R801
              clear R801 H800
              refine then_n ?_
              refine wp_seq ?_
              refine wp_seq ?_
              refine wp_reg ?_
              refine st_pr F1027 (PR.op (ex_move rfl) <| PR.op (ex_eq rfl rfl) <| PR.op (ex_move rfl) <| PR.nil) fun q1069 F1070 => ?_
              refine bool_split ((x202.toNat : Int) == 2) (fun hb1071 => ?_) (fun hb1071 => ?_)
              · replace H := ite_t hb1071 H
                refine st_gop F1070 rfl rfl (look_b rfl hb1071) (ex_fab Fx.fa90_2 rfl rfl) rfl rfl fun q1072 F1073 => ?_
                refine st_gop F1073 rfl rfl (look_b rfl hb1071) (ex_ld Fx.nag3 rfl (s1028.blk_cell (.tail _ <| .tail _ <| .head _) rfl)) rfl rfl fun q1074 F1075 => ?_
                refine st_gop F1075 rfl rfl (look_b rfl hb1071) (ex_gt rfl rfl) rfl rfl fun q1076 F1077 => ?_
                refine st_pr F1077 (PR.op (ex_pick_t (ev_b rfl hb1071) rfl) <| PR.nil) fun q1078 F1079 => ?_
                refine st_end ?_
                refine then_n ?_
                refine wp_if F1079 rfl (fun hb1080 => ?_) (fun hb1080 => ?_)
                · replace H := ite_t hb1080 H
                  refine wp_seq ?_
                  refine wp_reg ?_
                  refine st_pr F1079 (PR.op (ex_ldagg Fx.agg90 rfl (s1028.blk_cells (.head _) (o := 0) (ds := [.int .i64 0, .int .u8 0, .int .i64 0, .int .i64 0]) (fun j u hu => by rw [Nat.zero_add]; exact hu)) rfl) <| PR.nil) fun q1090 F1091 => ?_
                  have s1096 := s1028.f1
                  refine st_storea F1091 s1096 rfl rfl Fx.sz90 (one_cons rfl (one_cons rfl (one_cons rfl (one_cons rfl one_nil)))) (Nat.le_of_ble_eq_true rfl) fun w1092 q1093 F1094 s1095 => ?_
                  replace s1095 : SL w [] w1092 [Blk g9 90 [.int .i64 0, .int .u8 0, .int .i64 0, .int .i64 0], Blk g23 90 [.int .i64 0, .int .u8 0, .int .i64 0, .int .i64 0], Blk g802 90 [.int .i64 a1, .int .u8 (x202.toNat : Int), .int .i64 o799.1, .int .i64 o799.2]] := s1095
                  refine st_pr F1094 (PR.op (ex_asg rfl) <| PR.nil) fun q1097 F1098 => ?_
                  refine st_end ?_
                  refine then_n ?_
                  obtain rfl := some_ok H
                  refine wp_ret ?_
                  refine then_r ?_
                  refine ret_gen (rs := [.cell 4 90, .tmp 5]) (vs := [.agg ⟨[.int .i64 0, .int .u8 0, .int .i64 0, .int .i64 0]⟩, .int .i64 5]) F1098 (by rfl) ⟨_, _, rfl, RV.blk s1095 (.head _) rfl Fx.agg90 rfl, _, _, rfl, RV.tmp rfl, rfl⟩ ⟨_, rfl, ⟨rfl, s1095.drop.drop.drop⟩⟩
                · replace H := ite_f hb1080 H
                  refine wp_skip ?_
                  refine then_n ?_
                  refine wp_seq ?_
                  refine wp_reg ?_
                  refine st_pr F1079 (PR.op (ex_ldagg Fx.agg90 rfl (s1028.blk_cells (.tail _ <| .tail _ <| .head _) (o := 0) (ds := [.int .i64 a1, .int .u8 (x202.toNat : Int), .int .i64 o799.1, .int .i64 o799.2]) (fun j u hu => by rw [Nat.zero_add]; exact hu)) rfl) <| PR.nil) fun q1108 F1109 => ?_
                  have s1114 := s1028.f1
                  refine st_storea F1109 s1114 rfl rfl Fx.sz90 (one_cons rfl (one_cons rfl (one_cons rfl (one_cons rfl one_nil)))) (Nat.le_of_ble_eq_true rfl) fun w1110 q1111 F1112 s1113 => ?_
                  replace s1113 : SL w [] w1110 [Blk g9 90 [.int .i64 a1, .int .u8 (x202.toNat : Int), .int .i64 o799.1, .int .i64 o799.2], Blk g23 90 [.int .i64 0, .int .u8 0, .int .i64 0, .int .i64 0], Blk g802 90 [.int .i64 a1, .int .u8 (x202.toNat : Int), .int .i64 o799.1, .int .i64 o799.2]] := s1113
                  refine st_pr F1112 (PR.op (ex_asg rfl) <| PR.nil) fun q1115 F1116 => ?_
                  refine st_end ?_
                  refine then_n ?_
                  obtain rfl := some_ok H
                  refine wp_ret ?_
                  refine ret_gen (rs := [.cell 4 90, .tmp 5]) (vs := [.agg ⟨[.int .i64 a1, .int .u8 (x202.toNat : Int), .int .i64 o799.1, .int .i64 o799.2]⟩, .int .i64 0]) F1116 (by rfl) ⟨_, _, rfl, RV.blk s1113 (.head _) rfl Fx.agg90 rfl, _, _, rfl, RV.tmp rfl, rfl⟩ ⟨_, rfl, ⟨rfl, s1113.drop.drop.drop⟩⟩
              · replace H := ite_f hb1071 H
                refine st_gskip F1070 rfl rfl (look_b rfl hb1071) Bool.noConfusion rfl rfl fun q1117 F1118 => ?_
                refine st_gskip F1118 rfl rfl (look_b rfl hb1071) Bool.noConfusion rfl rfl fun q1119 F1120 => ?_
                refine st_gskip F1120 rfl rfl (look_b rfl hb1071) Bool.noConfusion rfl rfl fun q1121 F1122 => ?_
                refine st_pr F1122 (PR.op (ex_pick_f (ev_b rfl hb1071) rfl) <| PR.nil) fun q1123 F1124 => ?_
                refine st_end ?_
                refine then_n ?_
                refine wp_if_f F1124 rfl ?_
                refine wp_skip ?_
                refine then_n ?_
                refine wp_seq ?_
                refine wp_reg ?_
                refine st_pr F1124 (PR.op (ex_ldagg Fx.agg90 rfl (s1028.blk_cells (.tail _ <| .tail _ <| .head _) (o := 0) (ds := [.int .i64 a1, .int .u8 (x202.toNat : Int), .int .i64 o799.1, .int .i64 o799.2]) (fun j u hu => by rw [Nat.zero_add]; exact hu)) rfl) <| PR.nil) fun q1134 F1135 => ?_
                have s1140 := s1028.f1
                refine st_storea F1135 s1140 rfl rfl Fx.sz90 (one_cons rfl (one_cons rfl (one_cons rfl (one_cons rfl one_nil)))) (Nat.le_of_ble_eq_true rfl) fun w1136 q1137 F1138 s1139 => ?_
                replace s1139 : SL w [] w1136 [Blk g9 90 [.int .i64 a1, .int .u8 (x202.toNat : Int), .int .i64 o799.1, .int .i64 o799.2], Blk g23 90 [.int .i64 0, .int .u8 0, .int .i64 0, .int .i64 0], Blk g802 90 [.int .i64 a1, .int .u8 (x202.toNat : Int), .int .i64 o799.1, .int .i64 o799.2]] := s1139
                refine st_pr F1138 (PR.op (ex_asg rfl) <| PR.nil) fun q1141 F1142 => ?_
                refine st_end ?_
                refine then_n ?_
                obtain rfl := some_ok H
                refine wp_ret ?_
                refine ret_gen (rs := [.cell 4 90, .tmp 5]) (vs := [.agg ⟨[.int .i64 a1, .int .u8 (x202.toNat : Int), .int .i64 o799.1, .int .i64 o799.2]⟩, .int .i64 0]) F1142 (by rfl) ⟨_, _, rfl, RV.blk s1139 (.head _) rfl Fx.agg90 rfl, _, _, rfl, RV.tmp rfl, rfl⟩ ⟨_, rfl, ⟨rfl, s1139.drop.drop.drop⟩⟩
end Go.Proofs.Ytmeodoidfpcjlaa
