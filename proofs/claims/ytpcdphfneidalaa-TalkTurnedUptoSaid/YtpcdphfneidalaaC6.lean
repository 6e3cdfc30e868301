/- The walk of proviso/provisolaw24.TalkTurned. -/
import Derived.Test.YtpcdphfneidalaaFx
import Derived.Test.YtpcdphfneidalaaDf
import Derived.Test.YtpcdphfneidalaaC15
import Derived.Test.YtpcdphfneidalaaC18
import Derived.Test.YtpcdphfneidalaaC20
import Derived.Test.YtpcdphfneidalaaC22
import Derived.Test.YtpcdphfneidalaaC25
import Derived.Test.YtpcdphfneidalaaC26
import Derived.Test.YtpcdphfneidalaaC27
set_option linter.unusedVariables false
set_option linter.unusedSimpArgs false
namespace Go.Proofs.Ytpcdphfneidalaa
open Go Go.RowKit Go.Pv
theorem provisolaw24_TalkTurned_c {w : World} {v0_2 v3 : Value} {a0 : S_api_Request} {a1 : Int} {a2 : UInt8} {a3 : List UInt8} {r : Bool} (hr0_2 : Rd Ty.u8 w [] v0_2 a0.Data) (hr3 : Rd Ty.u8 w [] v3 a3) (H : provisolaw24_TalkTurned a0 a1 a2 a3 = some r) :
    Calls Try.prog 6 #[.agg ⟨[.int .i64 a0.Command, .int .i64 a0.Number, v0_2]⟩, .int .u64 a1, .int .u8 (a2.toNat : Int), v3] w (Ret fun u_ w_ => u_ = .bool r ∧ SL w [] w_ []) := by
  have s0 : SL w [] w [] := SL.init0 w
  refine call_enter Try.func6 rfl Try.ntmps6 (Nat.le_of_ble_eq_true rfl) (args := [.agg ⟨[.int .i64 a0.Command, .int .i64 a0.Number, v0_2]⟩, .int .u64 a1, .int .u8 (a2.toNat : Int), v3]) fun q0 F0 => ?_
  unfold provisolaw24_TalkTurned at H
  refine wp_seq ?_
  refine wp_reg ?_
  refine st_box F0 s0 rfl rfl rfl fun g9 w10 q11 F12 s13 => ?_
  refine st_pr F12 (PR.op (ex_asg rfl) <| PR.nil) fun q15 F16 => ?_
  refine st_end ?_
  refine then_n ?_
  refine wp_seq ?_
  refine wp_seq ?_
  refine wp_reg ?_
  obtain ⟨x79, hx80, H⟩ := bind_ok H
  refine st_pr F16 (PR.op (ex_ldagg Fx.agg35 rfl (s13.blk_cells (.head _) (o := 0) (ds := [.int .i64 a0.Command, .int .i64 a0.Number, v0_2]) (fun j u hu => by rw [Nat.zero_add]; exact hu)) rfl) <| PR.nil) fun q81 F82 => ?_
  refine st_call (args := [.tmp 16]) F82 Fx.fn25 rfl (provisolaw24_may_c (a0 := (⟨a0.Command, a0.Number, a0.Data⟩ : S_api_Request))  (hr0_2.pass0 s13) hx80) rfl fun v83 w84 q85 hS87 F86 => ?_
  obtain ⟨rfl, hq89⟩ := hS87
  have s88 := s13.add hq89
  refine st_pr F86 (PR.op (ex_not rfl) <| PR.nil) fun q90 F91 => ?_
  refine st_end ?_
  refine then_n ?_
  refine wp_if F91 rfl (fun hb92 => ?_) (fun hb92 => ?_)
  · replace H := ite_t hb92 H
    refine wp_seq ?_
    refine wp_reg ?_
    obtain ⟨x104, hx105, H⟩ := bind_ok H
    refine st_call (args := []) F91 Fx.fn26 rfl (provisolaw24_awake_c    hx105) rfl fun v106 w107 q108 hS110 F109 => ?_
    obtain ⟨rfl, hq112⟩ := hS110
    have s111 := s88.add hq112
    refine st_pr F109 (PR.op (ex_asg rfl) <| PR.nil) fun q113 F114 => ?_
    refine st_end ?_
    refine then_n ?_
    obtain rfl := some_ok H
    refine wp_ret ?_
    refine then_r ?_
    refine ret_gen (rs := [.tmp 8]) (vs := [.bool x104]) F114 (by rfl) ⟨_, _, rfl, RV.tmp rfl, rfl⟩ ⟨_, rfl, ⟨rfl, s111.drop⟩⟩
  · replace H := ite_f hb92 H
    refine wp_skip ?_
    refine then_n ?_
    refine wp_seq ?_
    refine wp_reg ?_
    obtain ⟨x130, hx131, H⟩ := bind_ok H
    refine st_pr F91 (PR.op (ex_ldagg Fx.agg35 rfl (s88.blk_cells (.head _) (o := 0) (ds := [.int .i64 a0.Command, .int .i64 a0.Number, v0_2]) (fun j u hu => by rw [Nat.zero_add]; exact hu)) rfl) <| PR.nil) fun q132 F133 => ?_
    refine st_call (args := [.tmp 21]) F133 Fx.fn15 rfl (talk_Pack_c (a0 := (⟨a0.Command, a0.Number, a0.Data⟩ : S_api_Request))  (hr0_2.pass0 s88) hx131) rfl fun v134 w135 q136 hS138 F137 => ?_
    obtain ⟨v141, rfl, hq140⟩ := hS138
    have s139 := s88.add hq140
    refine st_pr F137 (PR.op (ex_move rfl) <| PR.op (ex_extract (v := v141) rfl rfl) <| PR.op (ex_extract (v := .int .i64 x130.2) rfl rfl) <| PR.op (ex_asg rfl) <| PR.op (ex_asg rfl) <| PR.nil) fun q143 F144 => ?_
    refine st_end ?_
    refine then_n ?_
    refine wp_seq ?_
    refine wp_reg ?_
    have hv161 := (formL (rdL hr0_2 s139))
    obtain ⟨x162, hx163, H⟩ := bind_ok H
    refine st_pr F144 (PR.op (ex_fab Fx.fa35_1 rfl rfl) <| PR.op (ex_ld Fx.nag3 rfl (s139.blk_cell (.tail _ <| .head _) rfl)) <| PR.op (ex_fab Fx.fa35_2 rfl rfl) <| PR.op (ex_ld Fx.nag22 rfl (s139.blk_cell (.tail _ <| .head _) rfl)) <| PR.op (ex_build (vs := [.int .i64 a0.Number, v0_2]) Fx.zero41 Fx.pl41 rfl (cs := [.int .i64 a0.Number, v0_2]) (by obtain ⟨_, _, e_0⟩ := hv161; rw [e_0] <;> rfl)) <| PR.nil) fun q164 F165 => ?_
    refine st_call (args := [.tmp 30]) F165 Fx.fn18 rfl (talk_Told_c (a0 := (⟨a0.Number, a0.Data⟩ : S_api_Answer))  (hr0_2.pass0 s139) hx163) rfl fun v166 w167 q168 hS170 F169 => ?_
    obtain ⟨v173, rfl, hq172⟩ := hS170
    have s171 := s139.add hq172
    refine st_pr F169 (PR.op (ex_move rfl) <| PR.op (ex_extract (v := v173) rfl rfl) <| PR.op (ex_extract (v := .int .i64 x162.2) rfl rfl) <| PR.op (ex_asg rfl) <| PR.op (ex_asg rfl) <| PR.nil) fun q175 F176 => ?_
    refine st_end ?_
    refine then_n ?_
    refine wp_seq ?_
    refine wp_seq ?_
    refine wp_reg ?_
    refine st_pr F176 (PR.op (ex_move rfl) <| PR.op (ex_ne rfl rfl) <| PR.op (ex_move rfl) <| PR.nil) fun q267 F268 => ?_
    refine bool_split (x130.2 != 0) (fun hb269 => ?_) (fun hb269 => ?_)
    · replace H := ite_t hb269 H
      refine st_gskip F268 rfl rfl (look_b rfl hb269) Bool.noConfusion rfl rfl fun q270 F271 => ?_
      refine st_gskip F271 rfl rfl (look_b rfl hb269) Bool.noConfusion rfl rfl fun q272 F273 => ?_
      refine st_pr F273 (PR.op (ex_pick_t (ev_b rfl hb269) rfl) <| PR.op (ex_move rfl) <| PR.nil) fun q274 F275 => ?_
      refine st_gskip F275 rfl rfl rfl Bool.noConfusion rfl rfl fun q276 F277 => ?_
      refine st_gskip F277 rfl rfl rfl Bool.noConfusion rfl rfl fun q278 F279 => ?_
      refine st_gskip F279 rfl rfl rfl Bool.noConfusion rfl rfl fun q280 F281 => ?_
      refine st_pr F281 (PR.op (ex_pick_t rfl rfl) <| PR.op (ex_move rfl) <| PR.nil) fun q282 F283 => ?_
      refine st_gskip F283 rfl rfl rfl Bool.noConfusion rfl rfl fun q284 F285 => ?_
      refine st_gskip F285 rfl rfl rfl Bool.noConfusion rfl rfl fun q286 F287 => ?_
      refine st_gskip F287 rfl rfl rfl Bool.noConfusion rfl rfl fun q288 F289 => ?_
      refine st_pr F289 (PR.op (ex_pick_t rfl rfl) <| PR.nil) fun q290 F291 => ?_
      refine st_end ?_
      refine then_n ?_
      refine wp_if_t F291 rfl ?_
      refine wp_seq ?_
      refine wp_reg ?_
      refine st_pr F291 (PR.op (ex_asg rfl) <| PR.nil) fun q294 F295 => ?_
      refine st_end ?_
      refine then_n ?_
      obtain rfl := some_ok H
      refine wp_ret ?_
      refine then_r ?_
      refine ret_gen (rs := [.tmp 8]) (vs := [.bool false]) F295 (by rfl) ⟨_, _, rfl, RV.tmp rfl, rfl⟩ ⟨_, rfl, ⟨rfl, s171.drop.drop.drop⟩⟩
    · replace H := ite_f hb269 H
      refine st_gop F268 rfl rfl (look_b rfl hb269) (ex_move rfl) rfl rfl fun q296 F297 => ?_
      refine st_gop F297 rfl rfl (look_b rfl hb269) (ex_ne rfl rfl) rfl rfl fun q298 F299 => ?_
      refine st_pr F299 (PR.op (ex_pick_f (ev_b rfl hb269) rfl) <| PR.op (ex_move rfl) <| PR.nil) fun q300 F301 => ?_
      refine bool_split (x162.2 != 0) (fun hb302 => ?_) (fun hb302 => ?_)
      · replace H := ite_t hb302 H
        refine st_gskip F301 rfl rfl (look_b rfl hb302) Bool.noConfusion rfl rfl fun q303 F304 => ?_
        refine st_gskip F304 rfl rfl (look_b rfl hb302) Bool.noConfusion rfl rfl fun q305 F306 => ?_
        refine st_gskip F306 rfl rfl (look_b rfl hb302) Bool.noConfusion rfl rfl fun q307 F308 => ?_
        refine st_pr F308 (PR.op (ex_pick_t (ev_b rfl hb302) rfl) <| PR.op (ex_move rfl) <| PR.nil) fun q309 F310 => ?_
        refine st_gskip F310 rfl rfl rfl Bool.noConfusion rfl rfl fun q311 F312 => ?_
        refine st_gskip F312 rfl rfl rfl Bool.noConfusion rfl rfl fun q313 F314 => ?_
        refine st_gskip F314 rfl rfl rfl Bool.noConfusion rfl rfl fun q315 F316 => ?_
        refine st_pr F316 (PR.op (ex_pick_t rfl rfl) <| PR.nil) fun q317 F318 => ?_
        refine st_end ?_
        refine then_n ?_
        refine wp_if_t F318 rfl ?_
        refine wp_seq ?_
        refine wp_reg ?_
        refine st_pr F318 (PR.op (ex_asg rfl) <| PR.nil) fun q321 F322 => ?_
        refine st_end ?_
        refine then_n ?_
        obtain rfl := some_ok H
        refine wp_ret ?_
        refine then_r ?_
        refine ret_gen (rs := [.tmp 8]) (vs := [.bool false]) F322 (by rfl) ⟨_, _, rfl, RV.tmp rfl, rfl⟩ ⟨_, rfl, ⟨rfl, s171.drop.drop.drop⟩⟩
      · replace H := ite_f hb302 H
        refine st_gop F301 rfl rfl (look_b rfl hb302) (ex_move rfl) rfl rfl fun q323 F324 => ?_
        refine st_gop F324 rfl rfl (look_b rfl hb302) (ex_len rfl Try.underlying22 (formL (s171.own_rd (.tail _ <| .head _)))) rfl rfl fun q325 F326 => ?_
        refine st_gop F326 rfl rfl (look_b rfl hb302) (ex_lt rfl rfl) rfl rfl fun q327 F328 => ?_
        refine st_pr F328 (PR.op (ex_pick_f (ev_b rfl hb302) rfl) <| PR.op (ex_move rfl) <| PR.nil) fun q329 F330 => ?_
        refine bool_split (decide ((x130.1.length : Int) < 9)) (fun hb331 => ?_) (fun hb331 => ?_)
        · replace H := ite_t hb331 H
          refine st_gskip F330 rfl rfl (look_b rfl hb331) Bool.noConfusion rfl rfl fun q332 F333 => ?_
          refine st_gskip F333 rfl rfl (look_b rfl hb331) Bool.noConfusion rfl rfl fun q334 F335 => ?_
          refine st_gskip F335 rfl rfl (look_b rfl hb331) Bool.noConfusion rfl rfl fun q336 F337 => ?_
          refine st_pr F337 (PR.op (ex_pick_t (ev_b rfl hb331) rfl) <| PR.nil) fun q338 F339 => ?_
          refine st_end ?_
          refine then_n ?_
          refine wp_if_t F339 rfl ?_
          refine wp_seq ?_
          refine wp_reg ?_
          refine st_pr F339 (PR.op (ex_asg rfl) <| PR.nil) fun q342 F343 => ?_
          refine st_end ?_
          refine then_n ?_
          obtain rfl := some_ok H
          refine wp_ret ?_
          refine then_r ?_
          refine ret_gen (rs := [.tmp 8]) (vs := [.bool false]) F343 (by rfl) ⟨_, _, rfl, RV.tmp rfl, rfl⟩ ⟨_, rfl, ⟨rfl, s171.drop.drop.drop⟩⟩
        · replace H := ite_f hb331 H
          refine st_gop F330 rfl rfl (look_b rfl hb331) (ex_move rfl) rfl rfl fun q344 F345 => ?_
          refine st_gop F345 rfl rfl (look_b rfl hb331) (ex_len rfl Try.underlying22 (formL (s171.own_rd (.head _)))) rfl rfl fun q346 F347 => ?_
          refine st_gop F347 rfl rfl (look_b rfl hb331) (ex_lt rfl rfl) rfl rfl fun q348 F349 => ?_
          refine st_pr F349 (PR.op (ex_pick_f (ev_b rfl hb331) rfl) <| PR.nil) fun q350 F351 => ?_
          refine st_end ?_
          refine then_n ?_
          refine wp_if F351 rfl (fun hb352 => ?_) (fun hb352 => ?_)
          · replace H := ite_t hb352 H
            refine wp_seq ?_
            refine wp_reg ?_
            refine st_pr F351 (PR.op (ex_asg rfl) <| PR.nil) fun q355 F356 => ?_
            refine st_end ?_
            refine then_n ?_
            obtain rfl := some_ok H
            refine wp_ret ?_
            refine then_r ?_
            refine ret_gen (rs := [.tmp 8]) (vs := [.bool false]) F356 (by rfl) ⟨_, _, rfl, RV.tmp rfl, rfl⟩ ⟨_, rfl, ⟨rfl, s171.drop.drop.drop⟩⟩
          · replace H := ite_f hb352 H
            refine wp_skip ?_
            refine then_n ?_
            refine wp_seq ?_
            refine wp_reg ?_
            obtain ⟨hz360, H⟩ := none_else H
            refine st_pr F351 (PR.op (ex_move rfl) <| PR.op (ex_move rfl) <| PR.op (ex_len rfl Try.underlying22 (formL (s171.own_rd (.tail _ <| .head _)))) <| PR.op (ex_conv rfl Try.underlying3 Try.underlying52) <| PR.op (ex_rem rfl rfl hz360) <| PR.op (ex_conv rfl Try.underlying52 Try.underlying3) <| PR.op (ex_asg rfl) <| PR.nil) fun q361 F362 => ?_
            refine st_end ?_
            refine then_n ?_
            refine wp_seq ?_
            refine wp_reg ?_
            obtain ⟨x378, hx379, H⟩ := bind_ok H
            refine st_pr F362 (PR.op (ex_move rfl) <| PR.nil) fun q380 F381 => ?_
            refine st_call (args := [.tmp 56]) F381 Fx.fn27 rfl (slices_Clone_byte_byte_c (a0 := x130.1)  (s171.rd0 (.tail _ <| .head _)) hx379) rfl fun v382 w383 q384 hS386 F385 => ?_
            obtain ⟨_, rfl, hq388⟩ := hS386
            have s387 := s171.add hq388
            refine st_pr F385 (PR.op (ex_asg rfl) <| PR.nil) fun q391 F392 => ?_
            refine st_end ?_
            refine then_n ?_
            refine wp_seq ?_
            refine wp_reg ?_
            obtain ⟨x404, hx405, H⟩ := bind_ok H
            obtain ⟨ad406, hi407, he408⟩ := own_idx Flat.u8 s387 (.head _) Fx.sl22 rfl hx405
            refine st_pr F392 (PR.op (ex_move rfl) <| PR.op (ex_move rfl) <| PR.op (ex_move rfl) <| PR.op (hi407 _ _ _ _ _ _ _ _ _ _ rfl rfl) <| PR.nil) fun q409 F410 => ?_
            refine st_setel (y' := a2) Flat.u8 F410 s387 he408 hx405 rfl rfl (by rfl) Fx.sz5 fun w411 q412 F413 s414 => ?_
            refine st_end ?_
            refine then_n ?_
            refine wp_seq ?_
            refine wp_reg ?_
            obtain ⟨x430, hx431, H⟩ := bind_ok H
            refine st_pr F413 (PR.op (ex_move rfl) <| PR.nil) fun q432 F433 => ?_
            refine st_call (args := [.tmp 63]) F433 Fx.fn20 rfl (talk_Unpack_c (a0 := (x378.set (wr (Int.tmod a1 (IntKind.u64.wrap (x130.1.length : Int)))).toNat a2))  (s414.rd0 (.head _)) hx431) rfl fun v434 w435 q436 hS438 F437 => ?_
            obtain ⟨v441, rfl, hq440⟩ := hS438
            have s439 := s414.add hq440
            refine st_pr F437 (PR.op (ex_move rfl) <| PR.op (ex_extract (v := .agg ⟨[.int .i64 x430.1.Command, .int .i64 x430.1.Number, v441]⟩) rfl rfl) <| PR.op (ex_extract (v := .int .i64 x430.2) rfl rfl) <| PR.op (ex_asg rfl) <| PR.nil) fun q443 F444 => ?_
            refine st_end ?_
            refine then_n ?_
            refine wp_seq ?_
            refine wp_seq ?_
            refine wp_reg ?_
            obtain ⟨x471, hx472, H⟩ := bind_ok H
            obtain ⟨ad473, hi474, he475⟩ := own_idx Flat.u8 s439 (.tail _ <| .tail _ <| .tail _ <| .head _) Fx.sl22 rfl hx472
            refine st_pr F444 (PR.op (ex_move rfl) <| PR.op (ex_eq rfl rfl) <| PR.op (ex_move rfl) <| PR.op (ex_move rfl) <| PR.op (ex_move rfl) <| PR.op (hi474 _ _ _ _ _ _ _ _ _ _ rfl rfl) <| PR.op (ex_ld Fx.nag5 rfl (Cells.at_ (SL.elcells Flat.u8 s439 (.tail _ <| .tail _ <| .tail _ <| .head _) he475 hx472) (o := 0) rfl)) <| PR.op (ex_eq rfl rfl) <| PR.op (ex_bne rfl rfl Try.underlying4) <| PR.nil) fun q476 F477 => ?_
            refine st_end ?_
            refine then_n ?_
            refine wp_if F477 rfl (fun hb478 => ?_) (fun hb478 => ?_)
            · replace H := ite_t hb478 H
              refine wp_seq ?_
              refine wp_reg ?_
              refine st_pr F477 (PR.op (ex_asg rfl) <| PR.nil) fun q481 F482 => ?_
              refine st_end ?_
              refine then_n ?_
              obtain rfl := some_ok H
              refine wp_ret ?_
              refine then_r ?_
              refine ret_gen (rs := [.tmp 8]) (vs := [.bool false]) F482 (by rfl) ⟨_, _, rfl, RV.tmp rfl, rfl⟩ ⟨_, rfl, ⟨rfl, s439.drop.drop.drop.drop.drop⟩⟩
            · replace H := ite_f hb478 H
              refine wp_skip ?_
              refine then_n ?_
              refine wp_seq ?_
              refine wp_reg ?_
              obtain ⟨x503, hx504, H⟩ := bind_ok H
              obtain ⟨v505, hsc506, hv507⟩ := cut_view (s439.own_rd (.tail _ <| .tail _ <| .tail _ <| .head _)) Fx.sl22 rfl hx504 none (some (wr (Int.tmod a1 (IntKind.u64.wrap (x130.1.length : Int))))) (.inr ⟨rfl, rfl⟩) (.inl rfl)
              obtain ⟨x508, hx509, H⟩ := bind_ok H
              refine st_pr F477 (PR.op (ex_move rfl) <| PR.op (ex_move rfl) <| PR.op (hsc506 _ _ _ _ _ .i64 .i64 _ _ _ _ _ rfl trivial rfl) <| PR.nil) fun q510 F511 => ?_
              refine st_call (args := [.tmp 79]) F511 Fx.fn20 rfl (talk_Unpack_c (a0 := x503)  (hv507.rd (s439.rd0 (.tail _ <| .tail _ <| .tail _ <| .head _))) hx509) rfl fun v512 w513 q514 hS516 F515 => ?_
              obtain ⟨v519, rfl, hq518⟩ := hS516
              have s517 := s439.add hq518
              refine st_pr F515 (PR.op (ex_move rfl) <| PR.op (ex_extract (v := .agg ⟨[.int .i64 x508.1.Command, .int .i64 x508.1.Number, v519]⟩) rfl rfl) <| PR.op (ex_extract (v := .int .i64 x508.2) rfl rfl) <| PR.op (ex_asg rfl) <| PR.nil) fun q521 F522 => ?_
              refine st_end ?_
              refine then_n ?_
              refine wp_seq ?_
              refine wp_seq ?_
              refine wp_reg ?_
              refine st_pr F522 (PR.op (ex_move rfl) <| PR.op (ex_eq rfl rfl) <| PR.nil) fun q534 F535 => ?_
              refine st_end ?_
              refine then_n ?_
              refine wp_if F535 rfl (fun hb536 => ?_) (fun hb536 => ?_)
              · replace H := ite_t hb536 H
                refine wp_seq ?_
                refine wp_reg ?_
                refine st_pr F535 (PR.op (ex_asg rfl) <| PR.nil) fun q539 F540 => ?_
                refine st_end ?_
                refine then_n ?_
                obtain rfl := some_ok H
                refine wp_ret ?_
                refine then_r ?_
                refine ret_gen (rs := [.tmp 8]) (vs := [.bool false]) F540 (by rfl) ⟨_, _, rfl, RV.tmp rfl, rfl⟩ ⟨_, rfl, ⟨rfl, s517.drop.drop.drop.drop.drop.drop⟩⟩
              · replace H := ite_f hb536 H
                refine wp_skip ?_
                refine then_n ?_
                refine wp_seq ?_
                refine wp_reg ?_
                obtain ⟨hz544, H⟩ := none_else H
                refine st_pr F535 (PR.op (ex_move rfl) <| PR.op (ex_move rfl) <| PR.op (ex_len rfl Try.underlying22 (formL (s517.own_rd (.tail _ <| .tail _ <| .tail _ <| .head _)))) <| PR.op (ex_conv rfl Try.underlying3 Try.underlying52) <| PR.op (ex_rem rfl rfl hz544) <| PR.op (ex_conv rfl Try.underlying52 Try.underlying3) <| PR.op (ex_asg rfl) <| PR.nil) fun q545 F546 => ?_
                refine st_end ?_
                refine then_n ?_
                refine wp_seq ?_
                refine wp_reg ?_
                obtain ⟨x562, hx563, H⟩ := bind_ok H
                refine st_pr F546 (PR.op (ex_move rfl) <| PR.nil) fun q564 F565 => ?_
                refine st_call (args := [.tmp 91]) F565 Fx.fn27 rfl (slices_Clone_byte_byte_c (a0 := x162.1)  (s517.rd0 (.tail _ <| .tail _ <| .tail _ <| .head _)) hx563) rfl fun v566 w567 q568 hS570 F569 => ?_
                obtain ⟨_, rfl, hq572⟩ := hS570
                have s571 := s517.add hq572
                refine st_pr F569 (PR.op (ex_asg rfl) <| PR.nil) fun q575 F576 => ?_
                refine st_end ?_
                refine then_n ?_
                refine wp_seq ?_
                refine wp_reg ?_
                obtain ⟨x588, hx589, H⟩ := bind_ok H
                obtain ⟨ad590, hi591, he592⟩ := own_idx Flat.u8 s571 (.head _) Fx.sl22 rfl hx589
                refine st_pr F576 (PR.op (ex_move rfl) <| PR.op (ex_move rfl) <| PR.op (ex_move rfl) <| PR.op (hi591 _ _ _ _ _ _ _ _ _ _ rfl rfl) <| PR.nil) fun q593 F594 => ?_
                refine st_setel (y' := a2) Flat.u8 F594 s571 he592 hx589 rfl rfl (by rfl) Fx.sz5 fun w595 q596 F597 s598 => ?_
                refine st_end ?_
                refine then_n ?_
                refine wp_seq ?_
                refine wp_reg ?_
                obtain ⟨x614, hx615, H⟩ := bind_ok H
                refine st_pr F597 (PR.op (ex_move rfl) <| PR.nil) fun q616 F617 => ?_
                refine st_call (args := [.tmp 98]) F617 Fx.fn22 rfl (talk_Heard_c (a0 := (x562.set (wr (Int.tmod a1 (IntKind.u64.wrap (x162.1.length : Int)))).toNat a2))  (s598.rd0 (.head _)) hx615) rfl fun v618 w619 q620 hS622 F621 => ?_
                obtain ⟨v625, rfl, hq624⟩ := hS622
                have s623 := s598.add hq624
                refine st_pr F621 (PR.op (ex_move rfl) <| PR.op (ex_extract (v := .agg ⟨[.int .i64 x614.1.Status, v625]⟩) rfl rfl) <| PR.op (ex_extract (v := .int .i64 x614.2) rfl rfl) <| PR.op (ex_asg rfl) <| PR.nil) fun q627 F628 => ?_
                refine st_end ?_
                refine then_n ?_
                refine wp_seq ?_
                refine wp_seq ?_
                refine wp_reg ?_
                obtain ⟨x655, hx656, H⟩ := bind_ok H
                obtain ⟨ad657, hi658, he659⟩ := own_idx Flat.u8 s623 (.tail _ <| .tail _ <| .tail _ <| .tail _ <| .tail _ <| .head _) Fx.sl22 rfl hx656
                refine st_pr F628 (PR.op (ex_move rfl) <| PR.op (ex_eq rfl rfl) <| PR.op (ex_move rfl) <| PR.op (ex_move rfl) <| PR.op (ex_move rfl) <| PR.op (hi658 _ _ _ _ _ _ _ _ _ _ rfl rfl) <| PR.op (ex_ld Fx.nag5 rfl (Cells.at_ (SL.elcells Flat.u8 s623 (.tail _ <| .tail _ <| .tail _ <| .tail _ <| .tail _ <| .head _) he659 hx656) (o := 0) rfl)) <| PR.op (ex_eq rfl rfl) <| PR.op (ex_bne rfl rfl Try.underlying4) <| PR.nil) fun q660 F661 => ?_
                refine st_end ?_
                refine then_n ?_
                refine wp_if F661 rfl (fun hb662 => ?_) (fun hb662 => ?_)
                · replace H := ite_t hb662 H
                  refine wp_seq ?_
                  refine wp_reg ?_
                  refine st_pr F661 (PR.op (ex_asg rfl) <| PR.nil) fun q665 F666 => ?_
                  refine st_end ?_
                  refine then_n ?_
                  obtain rfl := some_ok H
                  refine wp_ret ?_
                  refine then_r ?_
                  refine ret_gen (rs := [.tmp 8]) (vs := [.bool false]) F666 (by rfl) ⟨_, _, rfl, RV.tmp rfl, rfl⟩ ⟨_, rfl, ⟨rfl, s623.drop.drop.drop.drop.drop.drop.drop.drop⟩⟩
                · replace H := ite_f hb662 H
                  refine wp_skip ?_
                  refine then_n ?_
                  refine wp_seq ?_
                  refine wp_reg ?_
                  obtain ⟨x687, hx688, H⟩ := bind_ok H
                  obtain ⟨v689, hsc690, hv691⟩ := cut_view (s623.own_rd (.tail _ <| .tail _ <| .tail _ <| .tail _ <| .tail _ <| .head _)) Fx.sl22 rfl hx688 none (some (wr (Int.tmod a1 (IntKind.u64.wrap (x162.1.length : Int))))) (.inr ⟨rfl, rfl⟩) (.inl rfl)
                  obtain ⟨x692, hx693, H⟩ := bind_ok H
                  refine st_pr F661 (PR.op (ex_move rfl) <| PR.op (ex_move rfl) <| PR.op (hsc690 _ _ _ _ _ .i64 .i64 _ _ _ _ _ rfl trivial rfl) <| PR.nil) fun q694 F695 => ?_
                  refine st_call (args := [.tmp 114]) F695 Fx.fn22 rfl (talk_Heard_c (a0 := x687)  (hv691.rd (s623.rd0 (.tail _ <| .tail _ <| .tail _ <| .tail _ <| .tail _ <| .head _))) hx693) rfl fun v696 w697 q698 hS700 F699 => ?_
                  obtain ⟨v703, rfl, hq702⟩ := hS700
                  have s701 := s623.add hq702
                  refine st_pr F699 (PR.op (ex_move rfl) <| PR.op (ex_extract (v := .agg ⟨[.int .i64 x692.1.Status, v703]⟩) rfl rfl) <| PR.op (ex_extract (v := .int .i64 x692.2) rfl rfl) <| PR.op (ex_asg rfl) <| PR.nil) fun q705 F706 => ?_
                  refine st_end ?_
                  refine then_n ?_
                  refine wp_seq ?_
                  refine wp_seq ?_
                  refine wp_reg ?_
                  refine st_pr F706 (PR.op (ex_move rfl) <| PR.op (ex_eq rfl rfl) <| PR.nil) fun q718 F719 => ?_
                  refine st_end ?_
                  refine then_n ?_
                  refine wp_if F719 rfl (fun hb720 => ?_) (fun hb720 => ?_)
                  · replace H := ite_t hb720 H
                    refine wp_seq ?_
                    refine wp_reg ?_
                    refine st_pr F719 (PR.op (ex_asg rfl) <| PR.nil) fun q723 F724 => ?_
                    refine st_end ?_
                    refine then_n ?_
                    obtain rfl := some_ok H
                    refine wp_ret ?_
                    refine then_r ?_
                    refine ret_gen (rs := [.tmp 8]) (vs := [.bool false]) F724 (by rfl) ⟨_, _, rfl, RV.tmp rfl, rfl⟩ ⟨_, rfl, ⟨rfl, s701.drop.drop.drop.drop.drop.drop.drop.drop.drop⟩⟩
                  · replace H := ite_f hb720 H
                    refine wp_skip ?_
                    refine then_n ?_
                    refine wp_seq ?_
                    refine wp_reg ?_
                    obtain ⟨x761, hx762, H⟩ := bind_ok H
                    refine st_pr F719 (PR.op (ex_move rfl) <| PR.nil) fun q763 F764 => ?_
                    refine st_call (args := [.tmp 121]) F764 Fx.fn27 rfl (slices_Clone_byte_byte_c (a0 := x130.1)  (s701.rd0 (.tail _ <| .tail _ <| .tail _ <| .tail _ <| .tail _ <| .tail _ <| .tail _ <| .head _)) hx762) rfl fun v765 w766 q767 hS769 F768 => ?_
                    obtain ⟨_, rfl, hq771⟩ := hS769
                    have s770 := s701.add hq771
                    obtain ⟨x774, hx775, H⟩ := bind_ok H
                    refine st_pr F768 (PR.op (ex_move rfl) <| PR.nil) fun q776 F777 => ?_
                    have s783 := s770
                    obtain ⟨_, hr_⟩ := (rdL hr3 s783)
                    refine st_append_rd Flat.u8 F777 s783 Fx.sl22 rfl rfl rfl rfl hr_ rfl rfl hx775 rfl fun v778 w779 q780 F781 s782 => ?_
                    obtain ⟨x784, hx785, H⟩ := bind_ok H
                    refine st_call (args := [.tmp 124]) F781 Fx.fn20 rfl (talk_Unpack_c (a0 := x774)  (s782.rd0 (.head _)) hx785) rfl fun v786 w787 q788 hS790 F789 => ?_
                    obtain ⟨v793, rfl, hq792⟩ := hS790
                    have s791 := s782.add hq792
                    refine st_pr F789 (PR.op (ex_move rfl) <| PR.op (ex_extract (v := .agg ⟨[.int .i64 x784.1.Command, .int .i64 x784.1.Number, v793]⟩) rfl rfl) <| PR.op (ex_extract (v := .int .i64 x784.2) rfl rfl) <| PR.op (ex_asg rfl) <| PR.nil) fun q795 F796 => ?_
                    refine st_end ?_
                    refine then_n ?_
                    refine wp_seq ?_
                    refine wp_reg ?_
                    obtain ⟨x833, hx834, H⟩ := bind_ok H
                    refine st_pr F796 (PR.op (ex_move rfl) <| PR.nil) fun q835 F836 => ?_
                    refine st_call (args := [.tmp 129]) F836 Fx.fn27 rfl (slices_Clone_byte_byte_c (a0 := x162.1)  (s791.rd0 (.tail _ <| .tail _ <| .tail _ <| .tail _ <| .tail _ <| .tail _ <| .tail _ <| .tail _ <| .head _)) hx834) rfl fun v837 w838 q839 hS841 F840 => ?_
                    obtain ⟨_, rfl, hq843⟩ := hS841
                    have s842 := s791.add hq843
                    obtain ⟨x846, hx847, H⟩ := bind_ok H
                    refine st_pr F840 (PR.op (ex_move rfl) <| PR.nil) fun q848 F849 => ?_
                    have s855 := s842
                    obtain ⟨_, hr_⟩ := (rdL hr3 s855)
                    refine st_append_rd Flat.u8 F849 s855 Fx.sl22 rfl rfl rfl rfl hr_ rfl rfl hx847 rfl fun v850 w851 q852 F853 s854 => ?_
                    obtain ⟨x856, hx857, H⟩ := bind_ok H
                    refine st_call (args := [.tmp 132]) F853 Fx.fn22 rfl (talk_Heard_c (a0 := x846)  (s854.rd0 (.head _)) hx857) rfl fun v858 w859 q860 hS862 F861 => ?_
                    obtain ⟨v865, rfl, hq864⟩ := hS862
                    have s863 := s854.add hq864
                    refine st_pr F861 (PR.op (ex_move rfl) <| PR.op (ex_extract (v := .agg ⟨[.int .i64 x856.1.Status, v865]⟩) rfl rfl) <| PR.op (ex_extract (v := .int .i64 x856.2) rfl rfl) <| PR.op (ex_asg rfl) <| PR.nil) fun q867 F868 => ?_
                    refine st_end ?_
                    refine then_n ?_
                    refine wp_seq ?_
                    refine wp_reg ?_
                    refine st_pr F868 (PR.op (ex_move rfl) <| PR.op (ex_eq rfl rfl) <| PR.op (ex_move rfl) <| PR.op (ex_len rfl Try.underlying22 (formL (rdL hr3 s863))) <| PR.op (ex_eq rfl rfl) <| PR.op (ex_beq rfl rfl Try.underlying4) <| PR.op (ex_move rfl) <| PR.nil) fun q900 F901 => ?_
                    refine bool_split ((x784.2 == 0) == ((a3.length : Int) == 0)) (fun hb902 => ?_) (fun hb902 => ?_)
                    · replace H := ite_t hb902 H
                      refine st_gop F901 rfl rfl (look_b rfl hb902) (ex_move rfl) rfl rfl fun q903 F904 => ?_
                      refine st_gop F904 rfl rfl (look_b rfl hb902) (ex_eq rfl rfl) rfl rfl fun q905 F906 => ?_
                      refine st_gop F906 rfl rfl (look_b rfl hb902) (ex_move rfl) rfl rfl fun q907 F908 => ?_
                      refine st_gop F908 rfl rfl (look_b rfl hb902) (ex_len rfl Try.underlying22 (formL (rdL hr3 s863))) rfl rfl fun q909 F910 => ?_
                      refine st_gop F910 rfl rfl (look_b rfl hb902) (ex_eq rfl rfl) rfl rfl fun q911 F912 => ?_
                      refine st_gop F912 rfl rfl (look_b rfl hb902) (ex_beq rfl rfl Try.underlying4) rfl rfl fun q913 F914 => ?_
                      refine st_pr F914 (PR.op (ex_pick_t (ev_b rfl hb902) rfl) <| PR.op (ex_asg rfl) <| PR.nil) fun q915 F916 => ?_
                      refine st_end ?_
                      refine then_n ?_
                      obtain rfl := some_ok H
                      refine wp_ret ?_
                      refine ret_gen (rs := [.tmp 8]) (vs := [.bool ((x856.2 == 0) == ((a3.length : Int) == 0))]) F916 (by rfl) ⟨_, _, rfl, RV.tmp rfl, rfl⟩ ⟨_, rfl, ⟨rfl, s863.drop.drop.drop.drop.drop.drop.drop.drop.drop.drop.drop.drop.drop⟩⟩
                    · replace H := ite_f hb902 H
                      refine st_gskip F901 rfl rfl (look_b rfl hb902) Bool.noConfusion rfl rfl fun q917 F918 => ?_
                      refine st_gskip F918 rfl rfl (look_b rfl hb902) Bool.noConfusion rfl rfl fun q919 F920 => ?_
                      refine st_gskip F920 rfl rfl (look_b rfl hb902) Bool.noConfusion rfl rfl fun q921 F922 => ?_
                      refine st_gskip F922 rfl rfl (look_b rfl hb902) Bool.noConfusion rfl rfl fun q923 F924 => ?_
                      refine st_gskip F924 rfl rfl (look_b rfl hb902) Bool.noConfusion rfl rfl fun q925 F926 => ?_
                      refine st_gskip F926 rfl rfl (look_b rfl hb902) Bool.noConfusion rfl rfl fun q927 F928 => ?_
                      refine st_pr F928 (PR.op (ex_pick_f (ev_b rfl hb902) rfl) <| PR.op (ex_asg rfl) <| PR.nil) fun q929 F930 => ?_
                      refine st_end ?_
                      refine then_n ?_
                      obtain rfl := some_ok H
                      refine wp_ret ?_
                      refine ret_gen (rs := [.tmp 8]) (vs := [.bool false]) F930 (by rfl) ⟨_, _, rfl, RV.tmp rfl, rfl⟩ ⟨_, rfl, ⟨rfl, s863.drop.drop.drop.drop.drop.drop.drop.drop.drop.drop.drop.drop.drop⟩⟩
end Go.Proofs.Ytpcdphfneidalaa
