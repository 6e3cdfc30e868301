/- Walks, merged. -/
import Derived.Test.YtmeodoidfpcjlaaW7b
set_option linter.unusedVariables false
set_option linter.unusedSimpArgs false
namespace Go.Proofs.Ytmeodoidfpcjlaa
open Go Go.RowKit Go.Pv
-- The walk of proviso/provisolaw19.OptDone.
theorem provisolaw19_OptDone_c {w : World} {v0_1 v0_4 : Value} {a0 : S_api_Func} {r : Bool} (hr0_1 : Rd Ty.u8 w [] v0_1 a0.Sig.Params) (hr0_4 : Rd Ty.u8 w [] v0_4 a0.Code) (H : provisolaw19_OptDone a0 = some r) :
  Calls Try.prog 7 #[.agg ⟨[.string ⟨⟨a0.Name⟩⟩, v0_1, .int .u8 (a0.Sig.Result.toNat : Int), .int .i64 a0.Locals, v0_4]⟩] w (Ret fun u_ w_ => u_ = .bool r ∧ SL w [] w_ []) := by
 have s0 : SL w [] w [] := SL.init0 w
 refine call_enter Try.func7 rfl Try.ntmps7 (Nat.le_of_ble_eq_true rfl) (args := [.agg ⟨[.string ⟨⟨a0.Name⟩⟩, v0_1, .int .u8 (a0.Sig.Result.toNat : Int), .int .i64 a0.Locals, v0_4]⟩]) fun q0 F0 => ?_
 unfold provisolaw19_OptDone at H
 refine wp_seq <| wp_reg ?_
 refine st_box F0 s0 rfl rfl rfl fun g9 w10 q11 F12 s13 => ?_
 refine st_pr F12 (PR.op (ex_asg rfl) <| PR.nil) fun q15 F16 => ?_
 refine st_end <| then_n <| wp_seq <| wp_seq <| wp_reg ?_
 refine st_pr F16 (PR.op (ex_fab Fx.fa56_3 rfl rfl) <| PR.op (ex_ld Fx.nag22 rfl (s13.blk_cell (.head _) rfl)) <| PR.op (ex_len rfl Try.underlying22 (formL (rdL hr0_4 s13))) <| PR.op (ex_gt rfl rfl) <| PR.nil) fun q28 F29 => ?_
 refine st_end <| then_n ?_
 refine wp_if F29 rfl (fun hb30 => ?_) (fun hb30 => ?_)
 ·replace H := ite_t hb30 H
  refine wp_seq <| wp_reg ?_
  refine st_pr F29 (PR.op (ex_asg rfl) <| PR.nil) fun q33 F34 => ?_
  refine st_end <| then_n ?_
  obtain rfl := some_ok H
  refine wp_ret ?_
  refine then_r ?_
  refine ret_gen (rs := [.tmp 2]) (vs := [.bool true]) F34 (by rfl) ⟨_, _, rfl, RV.tmp rfl, rfl⟩ ⟨_, rfl, ⟨rfl, s13.drop⟩⟩
 ·replace H := ite_f hb30 H
  refine wp_skip <| then_n <| wp_seq <| wp_reg ?_
  obtain ⟨x78, hx79, H⟩ := bind_ok H
  refine st_pr F29 (PR.op (ex_ldagg Fx.agg56 rfl (s13.blk_cells (.head _) (o := 0) (ds := [.string ⟨⟨a0.Name⟩⟩, v0_1, .int .u8 (a0.Sig.Result.toNat : Int), .int .i64 a0.Locals, v0_4]) (fun j u hu => by rw [Nat.zero_add]; exact hu)) rfl) <| PR.nil) fun q80 F81 => ?_
  refine st_call (args := [.tmp 14]) F81 Fx.fn24 rfl (provisoplain_Func_c (a0 := (⟨a0.Name, (⟨a0.Sig.Params, a0.Sig.Result⟩ : S_api_Sig), a0.Locals, a0.Code⟩ : S_api_Func))  (hr0_1.pass0 s13) (hr0_4.pass0 s13) hx79) rfl fun v82 w83 q84 hS86 F85 => ?_
  obtain ⟨v89, v91, rfl, hq88⟩ := hS86
  have s87 := s13.add hq88
  obtain ⟨x93, hx94, H⟩ := bind_ok H
  refine st_call (args := [.tmp 15]) F85 Fx.fn23 rfl (opt_Func_c (a0 := (⟨x78.Name, (⟨x78.Sig.Params, x78.Sig.Result⟩ : S_api_Sig), x78.Locals, x78.Code⟩ : S_api_Func))  (s87.rd0 (.head _)) (s87.rd0 (.tail _ <| .head _)) hx94) rfl fun v95 w96 q97 hS99 F98 => ?_
  obtain ⟨v0, v1, rfl, hq0⟩ := hS99
  have s1 := s87.add hq0
  refine st_pr F98 (PR.op (ex_move rfl) <| PR.op (ex_extract (v := .agg ⟨[.string ⟨⟨x93.1.Name⟩⟩, v0, .int .u8 (x93.1.Sig.Result.toNat : Int), .int .i64 x93.1.Locals, v1]⟩) rfl rfl) <| PR.op (ex_extract (v := .int .i64 x93.2) rfl rfl) <| PR.nil) fun q1 F1 => ?_
  refine st_alloc F1 s1 Fx.zero56 rfl rfl fun g0 w0 q2 F2 s2 => ?_
  have s3 := s2
  refine st_storea F2 s3 rfl rfl Fx.sz56 (one_cons rfl (one_cons (form_one (formL (s3.own_rd (.tail _ <| .head _)))) (one_cons rfl (one_cons rfl (one_cons (form_one (formL (s3.own_rd (.tail _ <| .tail _ <| .head _)))) one_nil))))) (Nat.le_of_ble_eq_true rfl) fun w1 q3 F3 s4 => ?_
  replace s4 : SL w [] w1 [Blk g0 56 [.string ⟨⟨x93.1.Name⟩⟩, v0, .int .u8 (x93.1.Sig.Result.toNat : Int), .int .i64 x93.1.Locals, v1], Sl Ty.u8 v0 x93.1.Sig.Params, Sl Ty.u8 v1 x93.1.Code, Sl Ty.u8 v89 x78.Sig.Params, Sl Ty.u8 v91 x78.Code, Blk g9 56 [.string ⟨⟨a0.Name⟩⟩, v0_1, .int .u8 (a0.Sig.Result.toNat : Int), .int .i64 a0.Locals, v0_4]] := s4
  refine st_pr F3 (PR.op (ex_asg rfl) <| PR.nil) fun q4 F4 => ?_
  refine st_end <| then_n <| wp_seq <| wp_seq <| wp_reg ?_
  obtain ⟨x0, hx0, H⟩ := bind_ok H
  refine st_pr F4 (PR.op (ex_fab Fx.fa56_3 rfl rfl) <| PR.op (ex_ld Fx.nag22 rfl (s4.blk_cell (.tail _ <| .tail _ <| .tail _ <| .tail _ <| .tail _ <| .head _) rfl)) <| PR.nil) fun q5 F5 => ?_
  refine st_call (args := [.tmp 21]) F5 Fx.fn25 rfl (provisoref05_Check_c (a0 := a0.Code)  (hr0_4.pass0 s4) hx0) rfl fun v2 w2 q6 hS0 F6 => ?_
  obtain ⟨rfl, hq1⟩ := hS0
  have s5 := s4.add hq1
  refine st_pr F6 (PR.op (ex_move rfl) <| PR.op (ex_extract (v := .int .i64 x0.1) rfl rfl) <| PR.op (ex_extract (v := .int .i64 x0.2) rfl rfl) <| PR.op (ex_asg rfl) <| PR.op (ex_asg rfl) <| PR.nil) fun q7 F7 => ?_
  refine st_end <| then_n <| wp_seq <| wp_reg ?_
  refine st_pr F7 (PR.op (ex_move rfl) <| PR.op (ex_ne rfl rfl) <| PR.nil) fun q8 F8 => ?_
  refine st_end <| then_n ?_
  refine wp_if F8 rfl (fun hb0 => ?_) (fun hb0 => ?_)
  ·replace H := ite_t hb0 H
   refine wp_seq <| wp_reg ?_
   refine st_pr F8 (PR.op (ex_move rfl) <| PR.op (ex_move rfl) <| PR.op (ex_eq rfl rfl) <| PR.op (ex_asg rfl) <| PR.nil) fun q9 F9 => ?_
   refine st_end <| then_n ?_
   obtain rfl := some_ok H
   refine wp_ret ?_
   refine then_r ?_
   refine ret_gen (rs := [.tmp 2]) (vs := [.bool (x93.2 == x0.2)]) F9 (by rfl) ⟨_, _, rfl, RV.tmp rfl, rfl⟩ ⟨_, rfl, ⟨rfl, s5.drop.drop.drop.drop.drop.drop⟩⟩
  ·replace H := ite_f hb0 H
   refine wp_skip <| then_n <| wp_seq <| wp_reg ?_
   obtain ⟨x1, hx1, H⟩ := bind_ok H
   refine st_pr F8 (PR.op (ex_ldagg Fx.agg56 rfl (s5.blk_cells (.head _) (o := 0) (ds := [.string ⟨⟨x93.1.Name⟩⟩, v0, .int .u8 (x93.1.Sig.Result.toNat : Int), .int .i64 x93.1.Locals, v1]) (fun j u hu => by rw [Nat.zero_add]; exact hu)) rfl) <| PR.nil) fun q10 F10 => ?_
   refine st_call (args := [.tmp 31]) F10 Fx.fn24 rfl (provisoplain_Func_c (a0 := (⟨x93.1.Name, (⟨x93.1.Sig.Params, x93.1.Sig.Result⟩ : S_api_Sig), x93.1.Locals, x93.1.Code⟩ : S_api_Func))  (s5.rd0 (.tail _ <| .head _)) (s5.rd0 (.tail _ <| .tail _ <| .head _)) hx1) rfl fun v3 w3 q12 hS1 F11 => ?_
   obtain ⟨v4, v5, rfl, hq2⟩ := hS1
   have s6 := s5.add hq2
   obtain ⟨x2, hx2, H⟩ := bind_ok H
   refine st_call (args := [.tmp 32]) F11 Fx.fn23 rfl (opt_Func_c (a0 := (⟨x1.Name, (⟨x1.Sig.Params, x1.Sig.Result⟩ : S_api_Sig), x1.Locals, x1.Code⟩ : S_api_Func))  (s6.rd0 (.head _)) (s6.rd0 (.tail _ <| .head _)) hx2) rfl fun v6 w4 q13 hS2 F13 => ?_
   obtain ⟨v7, v8, rfl, hq3⟩ := hS2
   have s7 := s6.add hq3
   refine st_pr F13 (PR.op (ex_move rfl) <| PR.op (ex_extract (v := .agg ⟨[.string ⟨⟨x2.1.Name⟩⟩, v7, .int .u8 (x2.1.Sig.Result.toNat : Int), .int .i64 x2.1.Locals, v8]⟩) rfl rfl) <| PR.op (ex_extract (v := .int .i64 x2.2) rfl rfl) <| PR.nil) fun q14 F14 => ?_
   refine st_alloc F14 s7 Fx.zero56 rfl rfl fun g1 w5 q16 F15 s8 => ?_
   have s9 := s8
   refine st_storea F15 s9 rfl rfl Fx.sz56 (one_cons rfl (one_cons (form_one (formL (s9.own_rd (.tail _ <| .head _)))) (one_cons rfl (one_cons rfl (one_cons (form_one (formL (s9.own_rd (.tail _ <| .tail _ <| .head _)))) one_nil))))) (Nat.le_of_ble_eq_true rfl) fun w6 q17 F17 s10 => ?_
   replace s10 : SL w [] w6 [Blk g1 56 [.string ⟨⟨x2.1.Name⟩⟩, v7, .int .u8 (x2.1.Sig.Result.toNat : Int), .int .i64 x2.1.Locals, v8], Sl Ty.u8 v7 x2.1.Sig.Params, Sl Ty.u8 v8 x2.1.Code, Sl Ty.u8 v4 x1.Sig.Params, Sl Ty.u8 v5 x1.Code, Blk g0 56 [.string ⟨⟨x93.1.Name⟩⟩, v0, .int .u8 (x93.1.Sig.Result.toNat : Int), .int .i64 x93.1.Locals, v1], Sl Ty.u8 v0 x93.1.Sig.Params, Sl Ty.u8 v1 x93.1.Code, Sl Ty.u8 v89 x78.Sig.Params, Sl Ty.u8 v91 x78.Code, Blk g9 56 [.string ⟨⟨a0.Name⟩⟩, v0_1, .int .u8 (a0.Sig.Result.toNat : Int), .int .i64 a0.Locals, v0_4]] := s10
   refine st_pr F17 (PR.op (ex_asg rfl) <| PR.nil) fun q18 F18 => ?_
   refine st_end <| then_n <| wp_seq <| wp_reg ?_
   refine st_pr F18 (PR.op (ex_move rfl) <| PR.op (ex_eq rfl rfl) <| PR.op (ex_move rfl) <| PR.nil) fun q19 F19 => ?_
   refine bool_split (x93.2 == 0) (fun hb1 => ?_) (fun hb1 => ?_)
   ·replace H := ite_t hb1 H
    refine st_gop F19 rfl rfl (look_b rfl hb1) (ex_move rfl) rfl rfl fun q20 F20 => ?_
    refine st_gop F20 rfl rfl (look_b rfl hb1) (ex_eq rfl rfl) rfl rfl fun q21 F21 => ?_
    refine st_pr F21 (PR.op (ex_pick_t (ev_b rfl hb1) rfl) <| PR.op (ex_move rfl) <| PR.nil) fun q22 F22 => ?_
    refine bool_split (x2.2 == 0) (fun hb2 => ?_) (fun hb2 => ?_)
    ·replace H := ite_t hb2 H
     refine st_gop F22 rfl rfl (look_b rfl hb2) (ex_fab Fx.fa56_3 rfl rfl) rfl rfl fun q23 F23 => ?_
     refine st_gop F23 rfl rfl (look_b rfl hb2) (ex_ld Fx.nag22 rfl (s10.blk_cell (.tail _ <| .tail _ <| .tail _ <| .tail _ <| .tail _ <| .head _) rfl)) rfl rfl fun q24 F24 => ?_
     refine st_gop F24 rfl rfl (look_b rfl hb2) (ex_len rfl Try.underlying22 (formL (s10.own_rd (.tail _ <| .tail _ <| .tail _ <| .tail _ <| .tail _ <| .tail _ <| .tail _ <| .head _)))) rfl rfl fun q25 F25 => ?_
     refine st_gop F25 rfl rfl (look_b rfl hb2) (ex_gt rfl rfl) rfl rfl fun q26 F26 => ?_
     refine st_pr F26 (PR.op (ex_pick_t (ev_b rfl hb2) rfl) <| PR.op (ex_move rfl) <| PR.nil) fun q27 F27 => ?_
     refine bool_split (decide ((x93.1.Code.length : Int) > 0)) (fun hb3 => ?_) (fun hb3 => ?_)
     ·replace H := ite_t hb3 H
      refine st_gop F27 rfl rfl (look_b rfl hb3) (ex_ldagg Fx.agg56 rfl (s10.blk_cells (.tail _ <| .tail _ <| .tail _ <| .tail _ <| .tail _ <| .head _) (o := 0) (ds := [.string ⟨⟨x93.1.Name⟩⟩, v0, .int .u8 (x93.1.Sig.Result.toNat : Int), .int .i64 x93.1.Locals, v1]) (fun j u hu => by rw [Nat.zero_add]; exact hu)) rfl) rfl rfl fun q29 F28 => ?_
      refine st_gop F28 rfl rfl (look_b rfl hb3) (ex_ldagg Fx.agg56 rfl (s10.blk_cells (.head _) (o := 0) (ds := [.string ⟨⟨x2.1.Name⟩⟩, v7, .int .u8 (x2.1.Sig.Result.toNat : Int), .int .i64 x2.1.Locals, v8]) (fun j u hu => by rw [Nat.zero_add]; exact hu)) rfl) rfl rfl fun q30 F30 => ?_
      obtain ⟨x3, hx3, H⟩ := bind_ok H
      refine st_ungd F30 rfl (look_b rfl hb3) ?_
      refine st_call (args := [.tmp 49, .tmp 50]) F30 Fx.fn30 rfl (provisoplain_SameFunc_c (a0 := (⟨x93.1.Name, (⟨x93.1.Sig.Params, x93.1.Sig.Result⟩ : S_api_Sig), x93.1.Locals, x93.1.Code⟩ : S_api_Func)) (a1 := (⟨x2.1.Name, (⟨x2.1.Sig.Params, x2.1.Sig.Result⟩ : S_api_Sig), x2.1.Locals, x2.1.Code⟩ : S_api_Func))  (s10.rd0 (.tail _ <| .tail _ <| .tail _ <| .tail _ <| .tail _ <| .tail _ <| .head _)) (s10.rd0 (.tail _ <| .tail _ <| .tail _ <| .tail _ <| .tail _ <| .tail _ <| .tail _ <| .head _)) (s10.rd0 (.tail _ <| .head _)) (s10.rd0 (.tail _ <| .tail _ <| .head _)) hx3) rfl fun v9 w7 q31 hS3 F31 => ?_
      obtain ⟨rfl, hq4⟩ := hS3
      have s11 := s10.add hq4
      refine st_pr F31 (PR.op (ex_pick_t (ev_b rfl hb3) rfl) <| PR.op (ex_asg rfl) <| PR.nil) fun q32 F32 => ?_
      refine st_end <| then_n ?_
      obtain rfl := some_ok H
      refine wp_ret ?_
      refine ret_gen (rs := [.tmp 2]) (vs := [.bool x3]) F32 (by rfl) ⟨_, _, rfl, RV.tmp rfl, rfl⟩ ⟨_, rfl, ⟨rfl, s11.drop.drop.drop.drop.drop.drop.drop.drop.drop.drop.drop⟩⟩
     ·replace H := ite_f hb3 H
      refine st_gskip F27 rfl rfl (look_b rfl hb3) Bool.noConfusion rfl rfl fun q34 F33 => ?_
      refine st_gskip F33 rfl rfl (look_b rfl hb3) Bool.noConfusion rfl rfl fun q35 F35 => ?_
      refine st_gskip F35 rfl rfl (look_b rfl hb3) Bool.noConfusion rfl rfl fun q36 F36 => ?_
      refine st_pr F36 (PR.op (ex_pick_f (ev_b rfl hb3) rfl) <| PR.op (ex_asg rfl) <| PR.nil) fun q37 F37 => ?_
      refine st_end <| then_n ?_
      obtain rfl := some_ok H
      refine wp_ret ?_
      refine ret_gen (rs := [.tmp 2]) (vs := [.bool false]) F37 (by rfl) ⟨_, _, rfl, RV.tmp rfl, rfl⟩ ⟨_, rfl, ⟨rfl, s10.drop.drop.drop.drop.drop.drop.drop.drop.drop.drop.drop⟩⟩
    ·replace H := ite_f hb2 H
     refine st_gskip F22 rfl rfl (look_b rfl hb2) Bool.noConfusion rfl rfl fun q38 F38 => ?_
     refine st_gskip F38 rfl rfl (look_b rfl hb2) Bool.noConfusion rfl rfl fun q39 F39 => ?_
     refine st_gskip F39 rfl rfl (look_b rfl hb2) Bool.noConfusion rfl rfl fun q40 F40 => ?_
     refine st_gskip F40 rfl rfl (look_b rfl hb2) Bool.noConfusion rfl rfl fun q41 F41 => ?_
     refine st_pr F41 (PR.op (ex_pick_f (ev_b rfl hb2) rfl) <| PR.op (ex_move rfl) <| PR.nil) fun q42 F42 => ?_
     refine st_gskip F42 rfl rfl rfl Bool.noConfusion rfl rfl fun q43 F43 => ?_
     refine st_gskip F43 rfl rfl rfl Bool.noConfusion rfl rfl fun q44 F44 => ?_
     refine st_gskip F44 rfl rfl rfl Bool.noConfusion rfl rfl fun q45 F45 => ?_
     refine st_pr F45 (PR.op (ex_pick_f rfl rfl) <| PR.op (ex_asg rfl) <| PR.nil) fun q46 F46 => ?_
     refine st_end <| then_n ?_
     obtain rfl := some_ok H
     refine wp_ret ?_
     refine ret_gen (rs := [.tmp 2]) (vs := [.bool false]) F46 (by rfl) ⟨_, _, rfl, RV.tmp rfl, rfl⟩ ⟨_, rfl, ⟨rfl, s10.drop.drop.drop.drop.drop.drop.drop.drop.drop.drop.drop⟩⟩
   ·replace H := ite_f hb1 H
    refine st_gskip F19 rfl rfl (look_b rfl hb1) Bool.noConfusion rfl rfl fun q47 F47 => ?_
    refine st_gskip F47 rfl rfl (look_b rfl hb1) Bool.noConfusion rfl rfl fun q48 F48 => ?_
    refine st_pr F48 (PR.op (ex_pick_f (ev_b rfl hb1) rfl) <| PR.op (ex_move rfl) <| PR.nil) fun q49 F49 => ?_
    refine st_gskip F49 rfl rfl rfl Bool.noConfusion rfl rfl fun q50 F50 => ?_
    refine st_gskip F50 rfl rfl rfl Bool.noConfusion rfl rfl fun q51 F51 => ?_
    refine st_gskip F51 rfl rfl rfl Bool.noConfusion rfl rfl fun q52 F52 => ?_
    refine st_gskip F52 rfl rfl rfl Bool.noConfusion rfl rfl fun q53 F53 => ?_
    refine st_pr F53 (PR.op (ex_pick_f rfl rfl) <| PR.op (ex_move rfl) <| PR.nil) fun q54 F54 => ?_
    refine st_gskip F54 rfl rfl rfl Bool.noConfusion rfl rfl fun q55 F55 => ?_
    refine st_gskip F55 rfl rfl rfl Bool.noConfusion rfl rfl fun q56 F56 => ?_
    refine st_gskip F56 rfl rfl rfl Bool.noConfusion rfl rfl fun q57 F57 => ?_
    refine st_pr F57 (PR.op (ex_pick_f rfl rfl) <| PR.op (ex_asg rfl) <| PR.nil) fun q58 F58 => ?_
    refine st_end <| then_n ?_
    obtain rfl := some_ok H
    refine wp_ret ?_
    refine ret_gen (rs := [.tmp 2]) (vs := [.bool false]) F58 (by rfl) ⟨_, _, rfl, RV.tmp rfl, rfl⟩ ⟨_, rfl, ⟨rfl, s10.drop.drop.drop.drop.drop.drop.drop.drop.drop.drop.drop⟩⟩
end Go.Proofs.Ytmeodoidfpcjlaa
