/- Walks, merged. -/
import Derived.Test.YtmeodoidfpcjlaaFx
import Derived.Test.YtmeodoidfpcjlaaDf
import Derived.Test.YtmeodoidfpcjlaaHs
import Derived.Test.YtmeodoidfpcjlaaPvo
set_option linter.unusedVariables false
set_option linter.unusedSimpArgs false
namespace Go.Proofs.Ytmeodoidfpcjlaa
open Go Go.RowKit Go.Pv
-- The walk of proviso/code.widths.
theorem code_widths_c {w : World} {a0 : UInt8} {r : Int × Int}  (H : code_widths a0 = some r) :
  Calls Try.prog 72 #[.int .u8 (a0.toNat : Int)] w (Ret fun u_ w_ => u_ = .tuple ⟨[.int .i64 r.1, .int .i64 r.2]⟩ ∧ SL w [] w_ []) := by
 have s0 : SL w [] w [] := SL.init0 w
 refine call_enter Try.func72 rfl Try.ntmps72 (Nat.le_of_ble_eq_true rfl) (args := [.int .u8 (a0.toNat : Int)]) fun q0 F0 => ?_
 unfold code_widths at H
 refine wp_seq <| wp_reg ?_
 refine st_pr F0 (PR.op (ex_asg rfl) <| PR.op (ex_asg rfl) <| PR.nil) fun q3 F4 => ?_
 refine st_end <| then_n <| wp_seq <| wp_seq <| wp_reg ?_
 refine st_pr F4 (PR.op (ex_move rfl) <| PR.nil) fun q1 F1 => ?_
 refine st_end <| then_n <| wp_block <| wp_seq <| wp_block <| wp_block <| wp_seq <| wp_block <| wp_seq <| wp_block <| wp_seq <| wp_block <| wp_seq <| wp_seq <| wp_seq <| wp_reg ?_
 refine st_pr F1 (PR.op (ex_eq rfl rfl) <| PR.op (ex_asg rfl) <| PR.nil) fun q2 F2 => ?_
 refine st_end <| then_n ?_
 refine wp_if F2 rfl (fun hb0 => ?_) (fun hb0 => ?_)
 ·replace H := ite_t hb0 H
  refine wp_exit <| then_x <| then_x <| blk_hit <| then_n <| wp_seq <| wp_seq <| wp_reg ?_
  refine st_pr F2 (PR.op (ex_asg rfl) <| PR.op (ex_asg rfl) <| PR.nil) fun q4 F3 => ?_
  refine st_end <| then_n ?_
  obtain rfl := some_ok H
  refine wp_ret ?_
  refine then_r <| blk_r <| then_r <| blk_r <| then_r <| blk_r <| blk_r <| then_r <| blk_r <| then_r ?_
  refine ret_gen (rs := [.tmp 2, .tmp 3]) (vs := [.int .i64 4, .int .i64 0]) F3 (by rfl) ⟨_, _, rfl, RV.tmp rfl, _, _, rfl, RV.tmp rfl, rfl⟩ ⟨_, rfl, ⟨rfl, s0⟩⟩
 ·replace H := ite_f hb0 H
  refine wp_skip <| then_n <| wp_seq <| wp_seq ?_
  obtain ⟨o0, H0, R0⟩ := bind_ok H
  clear H
  refine wp_cutn (fun a w_ => Fr a 23 [(4, .int .u8 (a0.toNat : Int)), (7, .bool o0)] ∧ SL w [] w_ []) ?_ ?_
  ·have H := H0
   refine wp_seq <| wp_reg ?_
   refine st_pr F2 (PR.op (ex_eq rfl rfl) <| PR.op (ex_asg rfl) <| PR.nil) fun q5 F5 => ?_
   refine st_end <| then_n ?_
   refine wp_if F5 rfl (fun hb1 => ?_) (fun hb1 => ?_)
   ·replace H := ite_t hb1 H
    refine wp_skip ?_
    obtain rfl := some_ok H
    refine then_n ?_
    exact ⟨F5.sub ⟨rfl, rfl, trivial⟩, s0⟩
   ·replace H := ite_f hb1 H
    refine wp_reg ?_
    refine st_pr F5 (PR.op (ex_eq rfl rfl) <| PR.op (ex_asg rfl) <| PR.nil) fun q6 F6 => ?_
    refine st_end ?_
    obtain rfl := some_ok H
    refine then_n ?_
    exact ⟨F6.sub ⟨rfl, rfl, trivial⟩, s0⟩
  ·intro q7 w0 hJ
   obtain ⟨F7, s1⟩ := hJ
   have H := R0
   clear R0 H0
   refine then_n ?_
   refine wp_if F7 rfl (fun hb2 => ?_) (fun hb2 => ?_)
   ·replace H := ite_t hb2 H
    refine wp_exit ?_
    refine then_x <| then_x <| blk_miss rfl <| then_x <| blk_hit ?_
    refine then_n <| wp_seq <| wp_seq <| wp_reg ?_
    refine st_pr F7 (PR.op (ex_asg rfl) <| PR.op (ex_asg rfl) <| PR.nil) fun q8 F8 => ?_
    refine st_end <| then_n ?_
    obtain rfl := some_ok H
    refine wp_ret ?_
    refine then_r <| blk_r <| then_r <| blk_r <| blk_r <| then_r <| blk_r <| then_r ?_
    refine ret_gen (rs := [.tmp 2, .tmp 3]) (vs := [.int .i64 2, .int .i64 0]) F8 (by rfl) ⟨_, _, rfl, RV.tmp rfl, _, _, rfl, RV.tmp rfl, rfl⟩ ⟨_, rfl, ⟨rfl, s1⟩⟩
   ·replace H := ite_f hb2 H
    refine wp_skip <| then_n <| wp_seq <| wp_seq ?_
    obtain ⟨o1, H1, R1⟩ := bind_ok H
    clear H
    refine wp_cutn (fun a w_ => Fr a 23 [(4, .int .u8 (a0.toNat : Int)), (10, .bool o1)] ∧ SL w [] w_ []) ?_ ?_
    ·have H := H1
     refine wp_seq <| wp_reg ?_
     refine st_pr F7 (PR.op (ex_eq rfl rfl) <| PR.op (ex_asg rfl) <| PR.nil) fun q9 F9 => ?_
     refine st_end <| then_n ?_
     refine wp_if F9 rfl (fun hb3 => ?_) (fun hb3 => ?_)
     ·replace H := ite_t hb3 H
      refine wp_skip ?_
      obtain rfl := some_ok H
      refine then_n ?_
      exact ⟨F9.sub ⟨rfl, rfl, trivial⟩, s1⟩
     ·replace H := ite_f hb3 H
      refine wp_reg ?_
      refine st_pr F9 (PR.op (ex_eq rfl rfl) <| PR.op (ex_asg rfl) <| PR.nil) fun q10 F10 => ?_
      refine st_end ?_
      obtain rfl := some_ok H
      refine then_n ?_
      exact ⟨F10.sub ⟨rfl, rfl, trivial⟩, s1⟩
    ·intro q11 w1 hJ
     obtain ⟨F11, s2⟩ := hJ
     have H := R1
     clear R1 H1
     refine then_n ?_
     refine wp_if F11 rfl (fun hb4 => ?_) (fun hb4 => ?_)
     ·replace H := ite_t hb4 H
      refine wp_exit ?_
      refine then_x <| then_x <| blk_miss rfl <| then_x <| blk_miss rfl <| then_x <| blk_hit ?_
      refine then_n <| wp_seq <| wp_seq <| wp_reg ?_
      refine st_pr F11 (PR.op (ex_asg rfl) <| PR.op (ex_asg rfl) <| PR.nil) fun q12 F12 => ?_
      refine st_end <| then_n ?_
      obtain rfl := some_ok H
      refine wp_ret ?_
      refine then_r <| blk_r <| blk_r <| then_r <| blk_r <| then_r ?_
      refine ret_gen (rs := [.tmp 2, .tmp 3]) (vs := [.int .i64 1, .int .i64 1]) F12 (by rfl) ⟨_, _, rfl, RV.tmp rfl, _, _, rfl, RV.tmp rfl, rfl⟩ ⟨_, rfl, ⟨rfl, s2⟩⟩
     ·replace H := ite_f hb4 H
      refine wp_skip <| then_n <| wp_seq <| wp_seq ?_
      obtain ⟨o2, H2, R2⟩ := bind_ok H
      clear H
      refine wp_cutn (fun a w_ => Fr a 23 [(4, .int .u8 (a0.toNat : Int)), (13, .bool o2)] ∧ SL w [] w_ []) ?_ ?_
      ·have H := H2
       refine wp_seq <| wp_reg ?_
       refine st_pr F11 (PR.op (ex_eq rfl rfl) <| PR.op (ex_asg rfl) <| PR.nil) fun q13 F13 => ?_
       refine st_end <| then_n ?_
       refine wp_if F13 rfl (fun hb5 => ?_) (fun hb5 => ?_)
       ·replace H := ite_t hb5 H
        refine wp_skip ?_
        obtain rfl := some_ok H
        refine then_n ?_
        exact ⟨F13.sub ⟨rfl, rfl, trivial⟩, s2⟩
       ·replace H := ite_f hb5 H
        refine wp_seq <| wp_reg ?_
        refine st_pr F13 (PR.op (ex_eq rfl rfl) <| PR.op (ex_asg rfl) <| PR.nil) fun q14 F14 => ?_
        refine st_end <| then_n ?_
        refine wp_if F14 rfl (fun hb6 => ?_) (fun hb6 => ?_)
        ·replace H := ite_t hb6 H
         refine wp_skip ?_
         obtain rfl := some_ok H
         refine then_n ?_
         exact ⟨F14.sub ⟨rfl, rfl, trivial⟩, s2⟩
        ·replace H := ite_f hb6 H
         refine wp_reg ?_
         refine st_pr F14 (PR.op (ex_eq rfl rfl) <| PR.op (ex_asg rfl) <| PR.nil) fun q15 F15 => ?_
         refine st_end ?_
         obtain rfl := some_ok H
         refine then_n ?_
         exact ⟨F15.sub ⟨rfl, rfl, trivial⟩, s2⟩
      ·intro q16 w2 hJ
       obtain ⟨F16, s3⟩ := hJ
       have H := R2
       clear R2 H2
       refine then_n ?_
       refine wp_if F16 rfl (fun hb7 => ?_) (fun hb7 => ?_)
       ·replace H := ite_t hb7 H
        refine wp_exit ?_
        refine then_x <| then_x <| blk_miss rfl <| then_x <| blk_miss rfl <| then_x <| blk_miss rfl <| then_x <| blk_hit ?_
        refine blk_n ?_
        refine then_n <| wp_seq <| wp_seq <| wp_reg ?_
        refine st_pr F16 (PR.op (ex_asg rfl) <| PR.op (ex_asg rfl) <| PR.nil) fun q17 F17 => ?_
        refine st_end <| then_n ?_
        obtain rfl := some_ok H
        refine wp_ret ?_
        refine then_r <| blk_r <| then_r ?_
        refine ret_gen (rs := [.tmp 2, .tmp 3]) (vs := [.int .i64 1, .int .i64 0]) F17 (by rfl) ⟨_, _, rfl, RV.tmp rfl, _, _, rfl, RV.tmp rfl, rfl⟩ ⟨_, rfl, ⟨rfl, s3⟩⟩
       ·replace H := ite_f hb7 H
        refine wp_skip <| then_n <| wp_seq ?_
        obtain ⟨o3, H3, R3⟩ := bind_ok H
        clear H
        refine wp_cutn (fun a w_ => Fr a 23 [(17, .bool o3)] ∧ SL w [] w_ []) ?_ ?_
        ·have H := H3
         refine wp_seq <| wp_reg ?_
         refine st_pr F16 (PR.op (ex_eq rfl rfl) <| PR.op (ex_asg rfl) <| PR.nil) fun q18 F18 => ?_
         refine st_end <| then_n ?_
         refine wp_if F18 rfl (fun hb8 => ?_) (fun hb8 => ?_)
         ·replace H := ite_t hb8 H
          refine wp_skip ?_
          obtain rfl := some_ok H
          refine then_n ?_
          exact ⟨F18.sub ⟨rfl, trivial⟩, s3⟩
         ·replace H := ite_f hb8 H
          refine wp_seq <| wp_reg ?_
          refine st_pr F18 (PR.op (ex_eq rfl rfl) <| PR.op (ex_asg rfl) <| PR.nil) fun q19 F19 => ?_
          refine st_end <| then_n ?_
          refine wp_if F19 rfl (fun hb9 => ?_) (fun hb9 => ?_)
          ·replace H := ite_t hb9 H
           refine wp_skip ?_
           obtain rfl := some_ok H
           refine then_n ?_
           exact ⟨F19.sub ⟨rfl, trivial⟩, s3⟩
          ·replace H := ite_f hb9 H
           refine wp_seq <| wp_reg ?_
           refine st_pr F19 (PR.op (ex_eq rfl rfl) <| PR.op (ex_asg rfl) <| PR.nil) fun q20 F20 => ?_
           refine st_end <| then_n ?_
           refine wp_if F20 rfl (fun hb10 => ?_) (fun hb10 => ?_)
           ·replace H := ite_t hb10 H
            refine wp_skip ?_
            obtain rfl := some_ok H
            refine then_n ?_
            exact ⟨F20.sub ⟨rfl, trivial⟩, s3⟩
           ·replace H := ite_f hb10 H
            refine wp_seq <| wp_reg ?_
            refine st_pr F20 (PR.op (ex_eq rfl rfl) <| PR.op (ex_asg rfl) <| PR.nil) fun q21 F21 => ?_
            refine st_end <| then_n ?_
            refine wp_if F21 rfl (fun hb11 => ?_) (fun hb11 => ?_)
            ·replace H := ite_t hb11 H
             refine wp_skip ?_
             obtain rfl := some_ok H
             refine then_n ?_
             exact ⟨F21.sub ⟨rfl, trivial⟩, s3⟩
            ·replace H := ite_f hb11 H
             refine wp_reg ?_
             refine st_pr F21 (PR.op (ex_eq rfl rfl) <| PR.op (ex_asg rfl) <| PR.nil) fun q22 F22 => ?_
             refine st_end ?_
             obtain rfl := some_ok H
             refine then_n ?_
             exact ⟨F22.sub ⟨rfl, trivial⟩, s3⟩
        ·intro q23 w3 hJ
         obtain ⟨F23, s4⟩ := hJ
         have H := R3
         clear R3 H3
         refine then_n ?_
         refine wp_if F23 rfl (fun hb12 => ?_) (fun hb12 => ?_)
         ·replace H := ite_t hb12 H
          refine wp_exit ?_
          refine then_x <| blk_miss rfl <| then_x <| blk_miss rfl <| then_x <| blk_miss rfl <| then_x <| blk_miss rfl <| blk_hit ?_
          refine then_n <| wp_seq <| wp_seq <| wp_reg ?_
          refine st_pr F23 (PR.op (ex_asg rfl) <| PR.op (ex_asg rfl) <| PR.nil) fun q24 F24 => ?_
          refine st_end <| then_n ?_
          obtain rfl := some_ok H
          refine wp_ret ?_
          refine then_r <| blk_r <| then_r ?_
          refine ret_gen (rs := [.tmp 2, .tmp 3]) (vs := [.int .i64 1, .int .i64 0]) F24 (by rfl) ⟨_, _, rfl, RV.tmp rfl, _, _, rfl, RV.tmp rfl, rfl⟩ ⟨_, rfl, ⟨rfl, s4⟩⟩
         ·replace H := ite_f hb12 H
          refine wp_skip <| then_n <| wp_exit ?_
          refine blk_miss rfl <| then_x <| blk_miss rfl <| then_x <| blk_miss rfl <| then_x <| blk_miss rfl <| blk_miss rfl <| then_x <| blk_hit ?_
          refine then_n <| wp_seq <| wp_reg ?_
          refine st_pr F23 (PR.op (ex_asg rfl) <| PR.op (ex_asg rfl) <| PR.nil) fun q25 F25 => ?_
          refine st_end <| then_n ?_
          obtain rfl := some_ok H
          refine wp_ret ?_
          refine ret_gen (rs := [.tmp 2, .tmp 3]) (vs := [.int .i64 0, .int .i64 0]) F25 (by rfl) ⟨_, _, rfl, RV.tmp rfl, _, _, rfl, RV.tmp rfl, rfl⟩ ⟨_, rfl, ⟨rfl, s4⟩⟩
-- The walk of proviso/code.Size.
theorem code_Size_c {w : World} {a0 : UInt8} {r : Int}  (H : code_Size a0 = some r) :
  Calls Try.prog 53 #[.int .u8 (a0.toNat : Int)] w (Ret fun u_ w_ => u_ = .int .i64 r ∧ SL w [] w_ []) := by
 have s0 : SL w [] w [] := SL.init0 w
 refine call_enter Try.func53 rfl Try.ntmps53 (Nat.le_of_ble_eq_true rfl) (args := [.int .u8 (a0.toNat : Int)]) fun q0 F0 => ?_
 unfold code_Size at H
 refine wp_seq <| wp_reg ?_
 refine st_pr F0 (PR.op (ex_asg rfl) <| PR.nil) fun q3 F4 => ?_
 refine st_end <| then_n <| wp_seq <| wp_seq <| wp_reg ?_
 refine st_pr F4 (PR.op (ex_move rfl) <| PR.op (ex_ge rfl rfl) <| PR.nil) fun q16 F17 => ?_
 refine st_end <| then_n ?_
 refine wp_if F17 rfl (fun hb18 => ?_) (fun hb18 => ?_)
 ·replace H := ite_t hb18 H
  refine wp_seq <| wp_reg ?_
  refine st_pr F17 (PR.op (ex_asg rfl) <| PR.nil) fun q21 F22 => ?_
  refine st_end <| then_n ?_
  obtain rfl := some_ok H
  refine wp_ret ?_
  refine then_r ?_
  refine ret_gen (rs := [.tmp 2]) (vs := [.int .i64 0]) F22 (by rfl) ⟨_, _, rfl, RV.tmp rfl, rfl⟩ ⟨_, rfl, ⟨rfl, s0⟩⟩
 ·replace H := ite_f hb18 H
  refine wp_skip <| then_n <| wp_seq <| wp_reg ?_
  obtain ⟨x36, hx37, H⟩ := bind_ok H
  refine st_pr F17 (PR.op (ex_move rfl) <| PR.nil) fun q38 F39 => ?_
  refine st_call (args := [.tmp 8]) F39 Fx.fn72 rfl (code_widths_c (a0 := a0)   hx37) rfl fun v40 w41 q42 hS44 F43 => ?_
  obtain ⟨rfl, hq46⟩ := hS44
  have s45 := s0.add hq46
  refine st_pr F43 (PR.op (ex_move rfl) <| PR.op (ex_extract (v := .int .i64 x36.1) rfl rfl) <| PR.op (ex_extract (v := .int .i64 x36.2) rfl rfl) <| PR.op (ex_asg rfl) <| PR.op (ex_asg rfl) <| PR.nil) fun q47 F48 => ?_
  refine st_end <| then_n <| wp_seq <| wp_reg ?_
  refine st_pr F48 (PR.op (ex_move rfl) <| PR.op (ex_add rfl rfl) <| PR.op (ex_move rfl) <| PR.op (ex_add rfl rfl) <| PR.op (ex_asg rfl) <| PR.nil) fun q51 F52 => ?_
  refine st_end <| then_n ?_
  obtain rfl := some_ok H
  refine wp_ret ?_
  refine ret_gen (rs := [.tmp 2]) (vs := [.int .i64 (wr ((wr (1 + x36.1)) + x36.2))]) F52 (by rfl) ⟨_, _, rfl, RV.tmp rfl, rfl⟩ ⟨_, rfl, ⟨rfl, s45⟩⟩
-- The walk of proviso/code.Decode$1.
theorem code_Decode_1_s0_c {w : World} {FF : List Nat} {g1 : Nat} {v1_0 : Value} {a0 : Int} {a1 : List UInt8} {r : Int × (List UInt8)} (hst : Star [Blk g1 22 [v1_0]] w FF) (hr1_0 : Rd Ty.u8 w FF v1_0 a1) (H : code_Decode_1_s0 a0 a1 = some r) :
  Calls Try.prog 71 #[.int .i64 a0, .pointer (some ⟨g1, 0, none⟩)] w (Ret fun u_ w_ => ∃ u0 : Value, u_ = .int .i64 r.1 ∧ View Ty.u8 v1_0 a1 u0 r.2 ∧ SL w FF w_ [Blk g1 22 [u0]]) := by
 have s0 : SL w FF w [Blk g1 22 [v1_0]] := SL.init w FF hst
 refine call_enter Try.func71 rfl Try.ntmps71 (Nat.le_of_ble_eq_true rfl) (args := [.int .i64 a0, .pointer (some ⟨g1, 0, none⟩)]) fun q0 F0 => ?_
 unfold code_Decode_1_s0 at H
 refine wp_seq <| wp_reg ?_
 refine st_pr F0 (PR.op (ex_asg rfl) <| PR.nil) fun q3 F4 => ?_
 refine st_end <| then_n <| wp_seq <| wp_reg ?_
 refine st_pr F4 (PR.op (ex_asg rfl) <| PR.nil) fun q7 F8 => ?_
 refine st_end <| then_n <| wp_seq <| wp_seq <| wp_reg ?_
 obtain ⟨x0, hx0, H⟩ := bind_ok H
 obtain ⟨v0, hs0, hv0⟩ := cut_view (rdL hr1_0 s0) Fx.sl22 rfl hx0 none (some a0) (.inr ⟨rfl, rfl⟩) (.inl rfl)
 have hv1 := View.refl.trans hv0
 have hr0 := View.rd hv0 hr1_0
 refine st_pr F8 (PR.op (ex_ld Fx.nag22 rfl (s0.blk_cell (.head _) rfl)) <| PR.op (ex_move rfl) <| PR.op (hs0 _ _ _ _ _ .i64 .i64 _ _ _ _ _ rfl trivial rfl) <| PR.op (ex_len rfl Try.underlying22 (formL (rdL hr0 s0))) <| PR.op (ex_move rfl) <| PR.nil) fun q1 F1 => ?_
 refine st_end <| then_n ?_
 obtain ⟨o0, H0, R0⟩ := bind_ok H
 clear H
 refine wp_cutn (fun a w_ => Fr a 30 [(0, .int .i64 a0), (1, .pointer (some ⟨g1, 0, none⟩)), (4, .int .i64 o0)] ∧ SL w FF w_ [Blk g1 22 [v1_0]]) ?_ ?_
 ·have H := H0
  refine wp_block ?_
  refine wp_lp (code_Decode_1_s0_b0 x0) (fun s1 a w_ => Fr a 30 [(0, .int .i64 a0), (1, .pointer (some ⟨g1, 0, none⟩)), (4, .int .i64 s1.1), (9, v0), (10, .int .i64 (x0.length : Int)), (11, .int .i64 s1.2)] ∧ SL w FF w_ [Blk g1 22 [v1_0]]) H ?_ ?_
  ·exact ⟨F1.sub ⟨rfl, rfl, rfl, rfl, rfl, rfl, trivial⟩, s0⟩
  ·intro s1 q2 w0 hI0 o1 H hr
   obtain ⟨F2, s2⟩ := hI0
   replace H : code_Decode_1_s0_b0 x0 s1 = some o1 := H
   unfold code_Decode_1_s0_b0 at H
   refine wp_seq <| wp_reg ?_
   refine st_pr F2 (PR.op (ex_lt rfl rfl) <| PR.nil) fun q4 F3 => ?_
   refine st_end <| then_n <| wp_seq ?_
   refine wp_if F3 rfl (fun hb0 => ?_) (fun hb0 => ?_)
   ·replace H := ite_t hb0 H
    refine wp_skip <| then_n <| wp_seq <| wp_block <| wp_seq <| wp_reg ?_
    obtain ⟨x1, hx1, H⟩ := bind_ok H
    obtain ⟨a2, hi0, hc0⟩ := idxL Flat.u8 (rdL hr0 s2) Fx.sl22 rfl hx1
    refine st_pr F3 (PR.op (hi0 _ _ _ _ _ _ _ _ _ _ rfl rfl) <| PR.op (ex_ld Fx.nag5 rfl (Cells.at_ hc0 (o := 0) rfl)) <| PR.op (ex_asg rfl) <| PR.nil) fun q5 F5 => ?_
    refine st_end <| then_n <| wp_reg ?_
    refine st_pr F5 (PR.op (ex_move rfl) <| PR.op (ex_shl rfl rfl rfl) <| PR.op (ex_move rfl) <| PR.op (ex_cv864 rfl Try.underlying5 Try.underlying3) <| PR.op (ex_or rfl rfl) <| PR.op (ex_asg rfl) <| PR.nil) fun q6 F6 => ?_
    refine st_end ?_
    refine blk_n ?_
    refine then_n <| wp_reg ?_
    refine st_pr F6 (PR.op (ex_add rfl rfl) <| PR.op (ex_move rfl) <| PR.nil) fun q8 F7 => ?_
    refine st_end ?_
    obtain rfl := some_ok H
    refine then_n ?_
    exact ⟨_, rfl, F7.sub ⟨rfl, rfl, rfl, rfl, rfl, rfl, trivial⟩, s2⟩
   ·replace H := ite_f hb0 H
    refine wp_exit <| then_x <| then_x <| blk_hit ?_
    obtain rfl := some_ok H
    obtain rfl := hr _ rfl
    refine then_n ?_
    exact ⟨F3.sub ⟨rfl, rfl, rfl, trivial⟩, s2⟩
 ·intro q9 w1 hJ
  obtain ⟨F9, s3⟩ := hJ
  have H := R0
  clear R0 H0
  refine then_n <| wp_seq <| wp_reg ?_
  obtain ⟨x2, hx2, H⟩ := bind_ok H
  obtain ⟨v1, hs1, hv2⟩ := cut_view (rdL hr1_0 s3) Fx.sl22 rfl hx2 (some a0) none (.inl rfl) (.inr ⟨rfl, rfl⟩)
  have hv3 := View.refl.trans hv2
  have hr1 := View.rd hv2 hr1_0
  refine st_pr F9 (PR.op (ex_ld Fx.nag22 rfl (s3.blk_cell (.head _) rfl)) <| PR.op (ex_move rfl) <| PR.op (hs1 _ _ _ _ _ .i64 .i64 _ _ _ _ _ rfl rfl trivial) <| PR.nil) fun q10 F10 => ?_
  have s4 := s3
  refine st_store F10 s4 rfl rfl Fx.sz22 (form_cells (formL (rdL hr1 s4))) (form_one (formL (rdL hr1 s4))) rfl fun w2 q11 F11 s5 => ?_
  replace s5 : SL w FF w2 [Blk g1 22 [v1]] := s5
  refine st_end <| then_n <| wp_seq <| wp_seq <| wp_reg ?_
  refine st_pr F11 (PR.op (ex_move rfl) <| PR.op (ex_eq rfl rfl) <| PR.nil) fun q12 F12 => ?_
  refine st_end <| then_n ?_
  refine wp_if F12 rfl (fun hb1 => ?_) (fun hb1 => ?_)
  ·replace H := ite_t hb1 H
   refine wp_seq <| wp_reg ?_
   refine st_pr F12 (PR.op (ex_move rfl) <| PR.op (ex_conv rfl Try.underlying3 Try.underlying21) <| PR.op (ex_conv rfl Try.underlying21 Try.underlying3) <| PR.op (ex_asg rfl) <| PR.nil) fun q13 F13 => ?_
   refine st_end <| then_n ?_
   obtain rfl := some_ok H
   refine wp_ret ?_
   refine then_r ?_
   refine ret_gen (rs := [.tmp 3]) (vs := [.int .i64 (wr (IntKind.i32.wrap o0))]) F13 (by rfl) ⟨_, _, rfl, RV.tmp rfl, rfl⟩ ⟨_, rfl, ⟨v1, rfl, hv3, s5⟩⟩
  ·replace H := ite_f hb1 H
   refine wp_skip <| then_n <| wp_seq <| wp_reg ?_
   refine st_pr F12 (PR.op (ex_move rfl) <| PR.op (ex_asg rfl) <| PR.nil) fun q14 F14 => ?_
   refine st_end <| then_n ?_
   obtain rfl := some_ok H
   refine wp_ret ?_
   refine ret_gen (rs := [.tmp 3]) (vs := [.int .i64 o0]) F14 (by rfl) ⟨_, _, rfl, RV.tmp rfl, rfl⟩ ⟨_, rfl, ⟨v1, rfl, hv3, s5⟩⟩
-- The walk of proviso/code.Decode.
theorem code_Decode_c {w : World} {v0 : Value} {a0 : List UInt8} {a1 : Int} {r : S_api_Instr × Int} (hr0 : Rd Ty.u8 w [] v0 a0) (H : code_Decode a0 a1 = some r) :
  Calls Try.prog 52 #[v0, .int .i64 a1] w (Ret fun u_ w_ => u_ = .tuple ⟨[.agg ⟨[.int .i64 r.1.At, .int .u8 (r.1.Op.toNat : Int), .int .i64 r.1.A, .int .i64 r.1.B]⟩, .int .i64 r.2]⟩ ∧ SL w [] w_ []) := by
 have s0 : SL w [] w [] := SL.init0 w
 refine call_enter Try.func52 rfl Try.ntmps52 (Nat.le_of_ble_eq_true rfl) (args := [v0, .int .i64 a1]) fun q0 F0 => ?_
 unfold code_Decode at H
 refine wp_seq <| wp_reg ?_
 refine st_alloc F0 s0 Fx.zero90 rfl rfl fun g9 w10 q11 F12 s13 => ?_
 refine st_pr F12 (PR.op (ex_asg rfl) <| PR.nil) fun q15 F16 => ?_
 refine st_end <| then_n <| wp_seq <| wp_reg ?_
 refine st_pr F16 (PR.op (ex_build (vs := []) Fx.zero90 Fx.pl90 rfl (cs := [.int .i64 0, .int .u8 0, .int .i64 0, .int .i64 0]) (rfl)) <| PR.nil) fun q30 F31 => ?_
 refine st_alloc F31 s13 Fx.zero90 rfl rfl fun g32 w33 q34 F35 s36 => ?_
 have s42 := s36
 refine st_storea F35 s42 rfl rfl Fx.sz90 (one_cons rfl (one_cons rfl (one_cons rfl (one_cons rfl one_nil)))) (Nat.le_of_ble_eq_true rfl) fun w38 q39 F40 s41 => ?_
 replace s41 : SL w [] w38 [Blk g32 90 [.int .i64 0, .int .u8 0, .int .i64 0, .int .i64 0], Blk g9 90 [.int .i64 0, .int .u8 0, .int .i64 0, .int .i64 0]] := s41
 refine st_end <| then_n <| wp_seq <| wp_block <| wp_seq <| wp_reg ?_
 refine st_pr F40 (PR.op (ex_move rfl) <| PR.op (ex_lt rfl rfl) <| PR.op (ex_move rfl) <| PR.nil) fun q1 F1 => ?_
 refine bool_split (decide (a1 < 0)) (fun hb0 => ?_) (fun hb0 => ?_)
 ·replace H := ite_t hb0 H
  refine st_gskip F1 rfl rfl (look_b rfl hb0) Bool.noConfusion rfl rfl fun q2 F2 => ?_
  refine st_gskip F2 rfl rfl (look_b rfl hb0) Bool.noConfusion rfl rfl fun q3 F3 => ?_
  refine st_gskip F3 rfl rfl (look_b rfl hb0) Bool.noConfusion rfl rfl fun q4 F4 => ?_
  refine st_gskip F4 rfl rfl (look_b rfl hb0) Bool.noConfusion rfl rfl fun q5 F5 => ?_
  refine st_pr F5 (PR.op (ex_pick_t (ev_b rfl hb0) rfl) <| PR.op (ex_asg rfl) <| PR.nil) fun q6 F6 => ?_
  refine st_end <| then_n ?_
  refine wp_if_t F6 rfl ?_
  refine wp_seq <| wp_reg ?_
  refine st_pr F6 (PR.op (ex_ldagg Fx.agg90 rfl (s41.blk_cells (.head _) (o := 0) (ds := [.int .i64 0, .int .u8 0, .int .i64 0, .int .i64 0]) (fun j u hu => by rw [Nat.zero_add]; exact hu)) rfl) <| PR.nil) fun q7 F7 => ?_
  have s1 := s41.f1
  refine st_storea F7 s1 rfl rfl Fx.sz90 (one_cons rfl (one_cons rfl (one_cons rfl (one_cons rfl one_nil)))) (Nat.le_of_ble_eq_true rfl) fun w0 q8 F8 s2 => ?_
  replace s2 : SL w [] w0 [Blk g9 90 [.int .i64 0, .int .u8 0, .int .i64 0, .int .i64 0], Blk g32 90 [.int .i64 0, .int .u8 0, .int .i64 0, .int .i64 0]] := s2
  refine st_pr F8 (PR.op (ex_asg rfl) <| PR.nil) fun q9 F9 => ?_
  refine st_end <| then_n ?_
  obtain rfl := some_ok H
  refine wp_ret ?_
  refine blk_r <| then_r ?_
  refine ret_gen (rs := [.cell 4 90, .tmp 5]) (vs := [.agg ⟨[.int .i64 0, .int .u8 0, .int .i64 0, .int .i64 0]⟩, .int .i64 1]) F9 (by rfl) ⟨_, _, rfl, RV.blk s2 (.head _) rfl Fx.agg90 rfl, _, _, rfl, RV.tmp rfl, rfl⟩ ⟨_, rfl, ⟨rfl, s2.drop.drop⟩⟩
 ·replace H := ite_f hb0 H
  refine st_gop F1 rfl rfl (look_b rfl hb0) (ex_move rfl) rfl rfl fun q10 F10 => ?_
  refine st_gop F10 rfl rfl (look_b rfl hb0) (ex_move rfl) rfl rfl fun q12 F11 => ?_
  refine st_gop F11 rfl rfl (look_b rfl hb0) (ex_len rfl Try.underlying22 (formL (rdL hr0 s41))) rfl rfl fun q13 F13 => ?_
  refine st_gop F13 rfl rfl (look_b rfl hb0) (ex_gt rfl rfl) rfl rfl fun q14 F14 => ?_
  refine st_pr F14 (PR.op (ex_pick_f (ev_b rfl hb0) rfl) <| PR.op (ex_asg rfl) <| PR.nil) fun q16 F15 => ?_
  refine st_end <| then_n ?_
  refine wp_if F15 rfl (fun hb1 => ?_) (fun hb1 => ?_)
  ·replace H := ite_t hb1 H
   refine wp_seq <| wp_reg ?_
   refine st_pr F15 (PR.op (ex_ldagg Fx.agg90 rfl (s41.blk_cells (.head _) (o := 0) (ds := [.int .i64 0, .int .u8 0, .int .i64 0, .int .i64 0]) (fun j u hu => by rw [Nat.zero_add]; exact hu)) rfl) <| PR.nil) fun q17 F17 => ?_
   have s3 := s41.f1
   refine st_storea F17 s3 rfl rfl Fx.sz90 (one_cons rfl (one_cons rfl (one_cons rfl (one_cons rfl one_nil)))) (Nat.le_of_ble_eq_true rfl) fun w1 q18 F18 s4 => ?_
   replace s4 : SL w [] w1 [Blk g9 90 [.int .i64 0, .int .u8 0, .int .i64 0, .int .i64 0], Blk g32 90 [.int .i64 0, .int .u8 0, .int .i64 0, .int .i64 0]] := s4
   refine st_pr F18 (PR.op (ex_asg rfl) <| PR.nil) fun q19 F19 => ?_
   refine st_end <| then_n ?_
   obtain rfl := some_ok H
   refine wp_ret ?_
   refine blk_r <| then_r ?_
   refine ret_gen (rs := [.cell 4 90, .tmp 5]) (vs := [.agg ⟨[.int .i64 0, .int .u8 0, .int .i64 0, .int .i64 0]⟩, .int .i64 1]) F19 (by rfl) ⟨_, _, rfl, RV.blk s4 (.head _) rfl Fx.agg90 rfl, _, _, rfl, RV.tmp rfl, rfl⟩ ⟨_, rfl, ⟨rfl, s4.drop.drop⟩⟩
  ·replace H := ite_f hb1 H
   refine wp_seq <| wp_reg ?_
   refine st_pr F15 (PR.op (ex_move rfl) <| PR.op (ex_move rfl) <| PR.op (ex_len rfl Try.underlying22 (formL (rdL hr0 s41))) <| PR.op (ex_eq rfl rfl) <| PR.op (ex_asg rfl) <| PR.nil) fun q20 F20 => ?_
   refine st_end <| then_n ?_
   refine wp_if F20 rfl (fun hb2 => ?_) (fun hb2 => ?_)
   ·replace H := ite_t hb2 H
    refine wp_seq <| wp_reg ?_
    refine st_pr F20 (PR.op (ex_ldagg Fx.agg90 rfl (s41.blk_cells (.head _) (o := 0) (ds := [.int .i64 0, .int .u8 0, .int .i64 0, .int .i64 0]) (fun j u hu => by rw [Nat.zero_add]; exact hu)) rfl) <| PR.nil) fun q21 F21 => ?_
    have s5 := s41.f1
    refine st_storea F21 s5 rfl rfl Fx.sz90 (one_cons rfl (one_cons rfl (one_cons rfl (one_cons rfl one_nil)))) (Nat.le_of_ble_eq_true rfl) fun w2 q22 F22 s6 => ?_
    replace s6 : SL w [] w2 [Blk g9 90 [.int .i64 0, .int .u8 0, .int .i64 0, .int .i64 0], Blk g32 90 [.int .i64 0, .int .u8 0, .int .i64 0, .int .i64 0]] := s6
    refine st_pr F22 (PR.op (ex_asg rfl) <| PR.nil) fun q23 F23 => ?_
    refine st_end <| then_n ?_
    obtain rfl := some_ok H
    refine wp_ret ?_
    refine blk_r <| then_r ?_
    refine ret_gen (rs := [.cell 4 90, .tmp 5]) (vs := [.agg ⟨[.int .i64 0, .int .u8 0, .int .i64 0, .int .i64 0]⟩, .int .i64 2]) F23 (by rfl) ⟨_, _, rfl, RV.blk s6 (.head _) rfl Fx.agg90 rfl, _, _, rfl, RV.tmp rfl, rfl⟩ ⟨_, rfl, ⟨rfl, s6.drop.drop⟩⟩
   ·replace H := ite_f hb2 H
    refine wp_seq <| wp_reg ?_
    obtain ⟨x0, hx0, H⟩ := bind_ok H
    obtain ⟨a2, hi0, hc0⟩ := idxL Flat.u8 (rdL hr0 s41) Fx.sl22 rfl hx0
    obtain ⟨x1, hx1, H⟩ := bind_ok H
    refine st_pr F20 (PR.op (ex_move rfl) <| PR.op (ex_move rfl) <| PR.op (hi0 _ _ _ _ _ _ _ _ _ _ rfl rfl) <| PR.op (ex_ld Fx.nag5 rfl (Cells.at_ hc0 (o := 0) rfl)) <| PR.nil) fun q24 F24 => ?_
    refine st_call (args := [.tmp 33]) F24 Fx.fn53 rfl (code_Size_c (a0 := x0)   hx1) rfl fun v1 w3 q25 hS0 F25 => ?_
    obtain ⟨rfl, hq0⟩ := hS0
    have s7 := s41.add hq0
    refine st_pr F25 (PR.op (ex_eq rfl rfl) <| PR.op (ex_asg rfl) <| PR.nil) fun q26 F26 => ?_
    refine st_end <| then_n ?_
    refine wp_if F26 rfl (fun hb3 => ?_) (fun hb3 => ?_)
    ·replace H := ite_t hb3 H
     refine wp_seq <| wp_reg ?_
     refine st_pr F26 (PR.op (ex_ldagg Fx.agg90 rfl (s7.blk_cells (.head _) (o := 0) (ds := [.int .i64 0, .int .u8 0, .int .i64 0, .int .i64 0]) (fun j u hu => by rw [Nat.zero_add]; exact hu)) rfl) <| PR.nil) fun q27 F27 => ?_
     have s8 := s7.f1
     refine st_storea F27 s8 rfl rfl Fx.sz90 (one_cons rfl (one_cons rfl (one_cons rfl (one_cons rfl one_nil)))) (Nat.le_of_ble_eq_true rfl) fun w4 q28 F28 s9 => ?_
     replace s9 : SL w [] w4 [Blk g9 90 [.int .i64 0, .int .u8 0, .int .i64 0, .int .i64 0], Blk g32 90 [.int .i64 0, .int .u8 0, .int .i64 0, .int .i64 0]] := s9
     refine st_pr F28 (PR.op (ex_asg rfl) <| PR.nil) fun q29 F29 => ?_
     refine st_end <| then_n ?_
     obtain rfl := some_ok H
     refine wp_ret ?_
     refine blk_r <| then_r ?_
     refine ret_gen (rs := [.cell 4 90, .tmp 5]) (vs := [.agg ⟨[.int .i64 0, .int .u8 0, .int .i64 0, .int .i64 0]⟩, .int .i64 40]) F29 (by rfl) ⟨_, _, rfl, RV.blk s9 (.head _) rfl Fx.agg90 rfl, _, _, rfl, RV.tmp rfl, rfl⟩ ⟨_, rfl, ⟨rfl, s9.drop.drop⟩⟩
    ·replace H := ite_f hb3 H
     refine wp_seq <| wp_reg ?_
     obtain ⟨x2, hx2, H⟩ := bind_ok H
     obtain ⟨a3, hi1, hc1⟩ := idxL Flat.u8 (rdL hr0 s7) Fx.sl22 rfl hx2
     obtain ⟨x3, hx3, H⟩ := bind_ok H
     refine st_pr F26 (PR.op (ex_move rfl) <| PR.op (ex_len rfl Try.underlying22 (formL (rdL hr0 s7))) <| PR.op (ex_move rfl) <| PR.op (ex_sub rfl rfl) <| PR.op (ex_move rfl) <| PR.op (ex_move rfl) <| PR.op (hi1 _ _ _ _ _ _ _ _ _ _ rfl rfl) <| PR.op (ex_ld Fx.nag5 rfl (Cells.at_ hc1 (o := 0) rfl)) <| PR.nil) fun q31 F30 => ?_
     refine st_call (args := [.tmp 45]) F30 Fx.fn53 rfl (code_Size_c (a0 := x2)   hx3) rfl fun v2 w5 q32 hS1 F32 => ?_
     obtain ⟨rfl, hq1⟩ := hS1
     have s10 := s7.add hq1
     refine st_pr F32 (PR.op (ex_lt rfl rfl) <| PR.op (ex_asg rfl) <| PR.nil) fun q33 F33 => ?_
     refine st_end <| then_n ?_
     refine wp_if F33 rfl (fun hb4 => ?_) (fun hb4 => ?_)
     ·replace H := ite_t hb4 H
      refine wp_seq <| wp_reg ?_
      refine st_pr F33 (PR.op (ex_ldagg Fx.agg90 rfl (s10.blk_cells (.head _) (o := 0) (ds := [.int .i64 0, .int .u8 0, .int .i64 0, .int .i64 0]) (fun j u hu => by rw [Nat.zero_add]; exact hu)) rfl) <| PR.nil) fun q35 F34 => ?_
      have s11 := s10.f1
      refine st_storea F34 s11 rfl rfl Fx.sz90 (one_cons rfl (one_cons rfl (one_cons rfl (one_cons rfl one_nil)))) (Nat.le_of_ble_eq_true rfl) fun w6 q36 F36 s12 => ?_
      replace s12 : SL w [] w6 [Blk g9 90 [.int .i64 0, .int .u8 0, .int .i64 0, .int .i64 0], Blk g32 90 [.int .i64 0, .int .u8 0, .int .i64 0, .int .i64 0]] := s12
      refine st_pr F36 (PR.op (ex_asg rfl) <| PR.nil) fun q37 F37 => ?_
      refine st_end <| then_n ?_
      obtain rfl := some_ok H
      refine wp_ret ?_
      refine blk_r <| then_r ?_
      refine ret_gen (rs := [.cell 4 90, .tmp 5]) (vs := [.agg ⟨[.int .i64 0, .int .u8 0, .int .i64 0, .int .i64 0]⟩, .int .i64 2]) F37 (by rfl) ⟨_, _, rfl, RV.blk s12 (.head _) rfl Fx.agg90 rfl, _, _, rfl, RV.tmp rfl, rfl⟩ ⟨_, rfl, ⟨rfl, s12.drop.drop⟩⟩
     ·replace H := ite_f hb4 H
      refine wp_skip ?_
      refine blk_n ?_
      refine then_n <| wp_seq <| wp_reg ?_
      obtain ⟨x4, hx4, H⟩ := bind_ok H
      obtain ⟨a4, hi2, hc2⟩ := idxL Flat.u8 (rdL hr0 s10) Fx.sl22 rfl hx4
      refine st_pr F33 (PR.op (ex_move rfl) <| PR.op (ex_move rfl) <| PR.op (ex_move rfl) <| PR.op (hi2 _ _ _ _ _ _ _ _ _ _ rfl rfl) <| PR.op (ex_ld Fx.nag5 rfl (Cells.at_ hc2 (o := 0) rfl)) <| PR.op (ex_build (vs := [.int .i64 a1, .int .u8 (x4.toNat : Int)]) Fx.zero90 Fx.pl90 rfl (cs := [.int .i64 a1, .int .u8 (x4.toNat : Int), .int .i64 0, .int .i64 0]) (rfl)) <| PR.nil) fun q38 F38 => ?_
      refine st_alloc F38 s10 Fx.zero90 rfl rfl fun g0 w7 q40 F39 s14 => ?_
      have s15 := s14
      refine st_storea F39 s15 rfl rfl Fx.sz90 (one_cons rfl (one_cons rfl (one_cons rfl (one_cons rfl one_nil)))) (Nat.le_of_ble_eq_true rfl) fun w8 q41 F41 s16 => ?_
      replace s16 : SL w [] w8 [Blk g0 90 [.int .i64 a1, .int .u8 (x4.toNat : Int), .int .i64 0, .int .i64 0], Blk g32 90 [.int .i64 0, .int .u8 0, .int .i64 0, .int .i64 0], Blk g9 90 [.int .i64 0, .int .u8 0, .int .i64 0, .int .i64 0]] := s16
      refine st_end <| then_n <| wp_seq <| wp_reg ?_
      obtain ⟨x5, hx5, H⟩ := bind_ok H
      obtain ⟨v3, hs0, hv0⟩ := Rd.cut hr0 Fx.sl22 rfl hx5 (some (wr (a1 + 1))) none (.inl rfl) (.inr ⟨rfl, rfl⟩)
      refine st_pr F41 (PR.op (ex_move rfl) <| PR.op (ex_move rfl) <| PR.op (ex_add rfl rfl) <| PR.op (hs0 _ _ _ _ _ .i64 .i64 _ _ _ _ _ rfl rfl trivial) <| PR.nil) fun q42 F42 => ?_
      refine st_alloc F42 s16 Fx.zero22 rfl rfl fun g1 w9 q43 F43 s17 => ?_
      have s18 := s17
      refine st_store F43 s18 rfl rfl Fx.sz22 (form_cells (formL (rdL hv0 s18))) (form_one (formL (rdL hv0 s18))) rfl fun w11 q44 F44 s19 => ?_
      replace s19 : SL w [] w11 [Blk g1 22 [v3], Blk g0 90 [.int .i64 a1, .int .u8 (x4.toNat : Int), .int .i64 0, .int .i64 0], Blk g32 90 [.int .i64 0, .int .u8 0, .int .i64 0, .int .i64 0], Blk g9 90 [.int .i64 0, .int .u8 0, .int .i64 0, .int .i64 0]] := s19
      refine st_end <| then_n <| wp_seq <| wp_reg ?_
      refine st_pr F44 (PR.op (ex_mkfunc (cs := [.tmp 8]) (vs := [.pointer (some ⟨g1, 0, none⟩)]) rfl) <| PR.op (ex_asg rfl) <| PR.nil) fun q45 F45 => ?_
      refine st_end <| then_n <| wp_seq <| wp_reg ?_
      obtain ⟨x6, hx6, H⟩ := bind_ok H
      refine st_pr F45 (PR.op (ex_fab Fx.fa90_1 rfl rfl) <| PR.op (ex_ld Fx.nag5 rfl (s19.blk_cell (.tail _ <| .head _) rfl)) <| PR.nil) fun q46 F46 => ?_
      refine st_call (args := [.tmp 62]) F46 Fx.fn72 rfl (code_widths_c (a0 := x4)   hx6) rfl fun v4 w12 q47 hS2 F47 => ?_
      obtain ⟨rfl, hq2⟩ := hS2
      have s20 := s19.add hq2
      refine st_pr F47 (PR.op (ex_move rfl) <| PR.op (ex_extract (v := .int .i64 x6.1) rfl rfl) <| PR.op (ex_extract (v := .int .i64 x6.2) rfl rfl) <| PR.op (ex_asg rfl) <| PR.op (ex_asg rfl) <| PR.nil) fun q48 F48 => ?_
      refine st_end <| then_n <| wp_seq <| wp_reg ?_
      obtain ⟨x7, hx7, H⟩ := bind_ok H
      refine st_pr F48 (PR.op (ex_move rfl) <| PR.op (ex_move rfl) <| PR.nil) fun q49 F49 => ?_
      have s21 := s20
      obtain ⟨G0, hs1, hF0, hG0, hc3⟩ := SL.open_ (ps := [Blk g1 22 [v3]]) (rest := [Blk g0 90 [.int .i64 a1, .int .u8 (x4.toNat : Int), .int .i64 0, .int .i64 0], Blk g32 90 [.int .i64 0, .int .u8 0, .int .i64 0, .int .i64 0], Blk g9 90 [.int .i64 0, .int .u8 0, .int .i64 0, .int .i64 0]]) s21
      refine st_callf (args := [.tmp 67]) F49 Fx.fn71 rfl rfl (code_Decode_1_s0_c (a0 := x6.1) (a1 := x5) hs1 (hv0.pass s21 hF0) hx7) rfl fun v5 w13 q50 hS3 F50 => ?_
      obtain ⟨v6, rfl, hv1, hq3⟩ := hS3
      have s22 := hc3 _ _ hq3
      have hr1 := View.rd hv1 hv0
      refine st_pr F50 (PR.op (ex_fab Fx.fa90_2 rfl rfl) <| PR.nil) fun q51 F51 => ?_
      have s23 := s22.f1
      refine st_store F51 s23 rfl rfl Fx.sz3 rfl rfl rfl fun w14 q52 F52 s24 => ?_
      replace s24 : SL w [] w14 [Blk g0 90 [.int .i64 a1, .int .u8 (x4.toNat : Int), .int .i64 x7.1, .int .i64 0], Blk g1 22 [v6], Blk g32 90 [.int .i64 0, .int .u8 0, .int .i64 0, .int .i64 0], Blk g9 90 [.int .i64 0, .int .u8 0, .int .i64 0, .int .i64 0]] := s24
      refine st_end <| then_n <| wp_seq <| wp_reg ?_
      obtain ⟨x8, hx8, H⟩ := bind_ok H
      refine st_pr F52 (PR.op (ex_move rfl) <| PR.op (ex_move rfl) <| PR.nil) fun q53 F53 => ?_
      have s25 := s24.f1
      obtain ⟨G1, hs2, hF1, hG1, hc4⟩ := SL.open_ (ps := [Blk g1 22 [v6]]) (rest := [Blk g0 90 [.int .i64 a1, .int .u8 (x4.toNat : Int), .int .i64 x7.1, .int .i64 0], Blk g32 90 [.int .i64 0, .int .u8 0, .int .i64 0, .int .i64 0], Blk g9 90 [.int .i64 0, .int .u8 0, .int .i64 0, .int .i64 0]]) s25
      refine st_callf (args := [.tmp 71]) F53 Fx.fn71 rfl rfl (code_Decode_1_s0_c (a0 := x6.2) (a1 := x7.2) hs2 (hr1.pass s25 hF1) hx8) rfl fun v7 w15 q54 hS4 F54 => ?_
      obtain ⟨v8, rfl, hv2, hq4⟩ := hS4
      have s26 := hc4 _ _ hq4
      have hr2 := View.rd hv2 hr1
      refine st_pr F54 (PR.op (ex_fab Fx.fa90_3 rfl rfl) <| PR.nil) fun q55 F55 => ?_
      have s27 := s26.f1
      refine st_store F55 s27 rfl rfl Fx.sz3 rfl rfl rfl fun w16 q56 F56 s28 => ?_
      replace s28 : SL w [] w16 [Blk g0 90 [.int .i64 a1, .int .u8 (x4.toNat : Int), .int .i64 x7.1, .int .i64 x8.1], Blk g1 22 [v8], Blk g32 90 [.int .i64 0, .int .u8 0, .int .i64 0, .int .i64 0], Blk g9 90 [.int .i64 0, .int .u8 0, .int .i64 0, .int .i64 0]] := s28
      refine st_end <| then_n <| wp_seq <| wp_seq <| wp_reg ?_
      refine st_pr F56 (PR.op (ex_fab Fx.fa90_1 rfl rfl) <| PR.op (ex_ld Fx.nag5 rfl (s28.blk_cell (.head _) rfl)) <| PR.op (ex_eq rfl rfl) <| PR.op (ex_move rfl) <| PR.nil) fun q57 F57 => ?_
      refine bool_split ((x4.toNat : Int) == 2) (fun hb5 => ?_) (fun hb5 => ?_)
      ·replace H := ite_t hb5 H
       refine st_gop F57 rfl rfl (look_b rfl hb5) (ex_fab Fx.fa90_2 rfl rfl) rfl rfl fun q58 F58 => ?_
       refine st_gop F58 rfl rfl (look_b rfl hb5) (ex_ld Fx.nag3 rfl (s28.blk_cell (.head _) rfl)) rfl rfl fun q59 F59 => ?_
       refine st_gop F59 rfl rfl (look_b rfl hb5) (ex_gt rfl rfl) rfl rfl fun q60 F60 => ?_
       refine st_pr F60 (PR.op (ex_pick_t (ev_b rfl hb5) rfl) <| PR.nil) fun q61 F61 => ?_
       refine st_end <| then_n ?_
       refine wp_if F61 rfl (fun hb6 => ?_) (fun hb6 => ?_)
       ·replace H := ite_t hb6 H
        refine wp_seq <| wp_reg ?_
        refine st_pr F61 (PR.op (ex_ldagg Fx.agg90 rfl (s28.blk_cells (.tail _ <| .tail _ <| .head _) (o := 0) (ds := [.int .i64 0, .int .u8 0, .int .i64 0, .int .i64 0]) (fun j u hu => by rw [Nat.zero_add]; exact hu)) rfl) <| PR.nil) fun q62 F62 => ?_
        have s29 := s28.f3
        refine st_storea F62 s29 rfl rfl Fx.sz90 (one_cons rfl (one_cons rfl (one_cons rfl (one_cons rfl one_nil)))) (Nat.le_of_ble_eq_true rfl) fun w17 q63 F63 s30 => ?_
        replace s30 : SL w [] w17 [Blk g9 90 [.int .i64 0, .int .u8 0, .int .i64 0, .int .i64 0], Blk g0 90 [.int .i64 a1, .int .u8 (x4.toNat : Int), .int .i64 x7.1, .int .i64 x8.1], Blk g1 22 [v8], Blk g32 90 [.int .i64 0, .int .u8 0, .int .i64 0, .int .i64 0]] := s30
        refine st_pr F63 (PR.op (ex_asg rfl) <| PR.nil) fun q64 F64 => ?_
        refine st_end <| then_n ?_
        obtain rfl := some_ok H
        refine wp_ret ?_
        refine then_r ?_
        refine ret_gen (rs := [.cell 4 90, .tmp 5]) (vs := [.agg ⟨[.int .i64 0, .int .u8 0, .int .i64 0, .int .i64 0]⟩, .int .i64 5]) F64 (by rfl) ⟨_, _, rfl, RV.blk s30 (.head _) rfl Fx.agg90 rfl, _, _, rfl, RV.tmp rfl, rfl⟩ ⟨_, rfl, ⟨rfl, s30.drop.drop.drop.drop⟩⟩
       ·replace H := ite_f hb6 H
        refine wp_skip <| then_n <| wp_seq <| wp_reg ?_
        refine st_pr F61 (PR.op (ex_ldagg Fx.agg90 rfl (s28.blk_cells (.head _) (o := 0) (ds := [.int .i64 a1, .int .u8 (x4.toNat : Int), .int .i64 x7.1, .int .i64 x8.1]) (fun j u hu => by rw [Nat.zero_add]; exact hu)) rfl) <| PR.nil) fun q65 F65 => ?_
        have s31 := s28.f3
        refine st_storea F65 s31 rfl rfl Fx.sz90 (one_cons rfl (one_cons rfl (one_cons rfl (one_cons rfl one_nil)))) (Nat.le_of_ble_eq_true rfl) fun w18 q66 F66 s32 => ?_
        replace s32 : SL w [] w18 [Blk g9 90 [.int .i64 a1, .int .u8 (x4.toNat : Int), .int .i64 x7.1, .int .i64 x8.1], Blk g0 90 [.int .i64 a1, .int .u8 (x4.toNat : Int), .int .i64 x7.1, .int .i64 x8.1], Blk g1 22 [v8], Blk g32 90 [.int .i64 0, .int .u8 0, .int .i64 0, .int .i64 0]] := s32
        refine st_pr F66 (PR.op (ex_asg rfl) <| PR.nil) fun q67 F67 => ?_
        refine st_end <| then_n ?_
        obtain rfl := some_ok H
        refine wp_ret ?_
        refine ret_gen (rs := [.cell 4 90, .tmp 5]) (vs := [.agg ⟨[.int .i64 a1, .int .u8 (x4.toNat : Int), .int .i64 x7.1, .int .i64 x8.1]⟩, .int .i64 0]) F67 (by rfl) ⟨_, _, rfl, RV.blk s32 (.head _) rfl Fx.agg90 rfl, _, _, rfl, RV.tmp rfl, rfl⟩ ⟨_, rfl, ⟨rfl, s32.drop.drop.drop.drop⟩⟩
      ·replace H := ite_f hb5 H
       refine st_gskip F57 rfl rfl (look_b rfl hb5) Bool.noConfusion rfl rfl fun q68 F68 => ?_
       refine st_gskip F68 rfl rfl (look_b rfl hb5) Bool.noConfusion rfl rfl fun q69 F69 => ?_
       refine st_gskip F69 rfl rfl (look_b rfl hb5) Bool.noConfusion rfl rfl fun q70 F70 => ?_
       refine st_pr F70 (PR.op (ex_pick_f (ev_b rfl hb5) rfl) <| PR.nil) fun q71 F71 => ?_
       refine st_end <| then_n ?_
       refine wp_if_f F71 rfl ?_
       refine wp_skip <| then_n <| wp_seq <| wp_reg ?_
       refine st_pr F71 (PR.op (ex_ldagg Fx.agg90 rfl (s28.blk_cells (.head _) (o := 0) (ds := [.int .i64 a1, .int .u8 (x4.toNat : Int), .int .i64 x7.1, .int .i64 x8.1]) (fun j u hu => by rw [Nat.zero_add]; exact hu)) rfl) <| PR.nil) fun q72 F72 => ?_
       have s33 := s28.f3
       refine st_storea F72 s33 rfl rfl Fx.sz90 (one_cons rfl (one_cons rfl (one_cons rfl (one_cons rfl one_nil)))) (Nat.le_of_ble_eq_true rfl) fun w19 q73 F73 s34 => ?_
       replace s34 : SL w [] w19 [Blk g9 90 [.int .i64 a1, .int .u8 (x4.toNat : Int), .int .i64 x7.1, .int .i64 x8.1], Blk g0 90 [.int .i64 a1, .int .u8 (x4.toNat : Int), .int .i64 x7.1, .int .i64 x8.1], Blk g1 22 [v8], Blk g32 90 [.int .i64 0, .int .u8 0, .int .i64 0, .int .i64 0]] := s34
       refine st_pr F73 (PR.op (ex_asg rfl) <| PR.nil) fun q74 F74 => ?_
       refine st_end <| then_n ?_
       obtain rfl := some_ok H
       refine wp_ret ?_
       refine ret_gen (rs := [.cell 4 90, .tmp 5]) (vs := [.agg ⟨[.int .i64 a1, .int .u8 (x4.toNat : Int), .int .i64 x7.1, .int .i64 x8.1]⟩, .int .i64 0]) F74 (by rfl) ⟨_, _, rfl, RV.blk s34 (.head _) rfl Fx.agg90 rfl, _, _, rfl, RV.tmp rfl, rfl⟩ ⟨_, rfl, ⟨rfl, s34.drop.drop.drop.drop⟩⟩
-- The walk of proviso/flow.Scan.
theorem flow_Scan_c {w : World} {v0 : Value} {a0 : List UInt8} {r : (List S_api_Instr) × Int × Int} (hr0 : Rd Ty.u8 w [] v0 a0) (H : flow_Scan a0 = some r) :
  Calls Try.prog 27 #[v0] w (Ret fun u_ w_ => ∃ u0 : Value, u_ = .tuple ⟨[u0, .int .i64 r.2.1, .int .i64 r.2.2]⟩ ∧ SL w [] w_ [Sl T_api_Instr u0 r.1]) := by
 have s0 : SL w [] w [] := SL.init0 w
 refine call_enter Try.func27 rfl Try.ntmps27 (Nat.le_of_ble_eq_true rfl) (args := [v0]) fun q0 F0 => ?_
 unfold flow_Scan at H
 refine wp_seq <| wp_reg ?_
 refine st_pr F0 (PR.op (ex_asg rfl) <| PR.op (ex_asg rfl) <| PR.op (ex_asg rfl) <| PR.nil) fun q3 F4 => ?_
 refine st_end <| then_n <| wp_seq <| wp_seq <| wp_reg ?_
 refine st_pr F4 (PR.op (ex_move rfl) <| PR.op (ex_len rfl Try.underlying22 (formL (rdL hr0 s0))) <| PR.op (ex_gt rfl rfl) <| PR.nil) fun q16 F17 => ?_
 refine st_end <| then_n ?_
 refine wp_if F17 rfl (fun hb18 => ?_) (fun hb18 => ?_)
 ·replace H := ite_t hb18 H
  refine wp_seq <| wp_reg ?_
  refine st_pr F17 (PR.op (ex_asg rfl) <| PR.op (ex_asg rfl) <| PR.op (ex_asg rfl) <| PR.nil) fun q21 F22 => ?_
  refine st_end <| then_n ?_
  obtain rfl := some_ok H
  refine wp_ret ?_
  refine then_r ?_
  refine ret_gen (rs := [.tmp 2, .tmp 3, .tmp 4]) (vs := [.slice none 0 0, .int .i64 0, .int .i64 4]) F22 (by rfl) ⟨_, _, rfl, RV.tmp rfl, _, _, rfl, RV.tmp rfl, _, _, rfl, RV.tmp rfl, rfl⟩ ⟨_, rfl, ⟨(.slice none 0 0), rfl, (SL.nilSl (T := T_api_Instr) s0)⟩⟩
 ·replace H := ite_f hb18 H
  refine wp_skip <| then_n <| wp_seq <| wp_reg ?_
  refine st_pr F17 (PR.op (ex_asg rfl) <| PR.nil) fun q25 F26 => ?_
  refine st_end <| then_n <| wp_seq <| wp_seq <| wp_reg ?_
  refine st_pr F26 (PR.op (ex_asg rfl) <| PR.nil) fun q1 F1 => ?_
  refine st_end <| then_n ?_
  obtain ⟨o0, H0, R0⟩ := bind_ok H
  clear H
  refine wp_cutn (fun a w_ => ∃ p0 : (List S_api_Instr), o0 = .inr (p0) ∧ ∃ v1 : Value, Fr a 36 [(5, v1)] ∧ SL w [] w_ [Sl T_api_Instr v1 p0]) ?_ ?_
  ·have H := H0
   refine wp_block ?_
   refine wp_lp (flow_Scan_b0 a0) (fun s1 a w_ => ∃ v2 : Value, Fr a 36 [(0, v0), (5, v2), (6, .int .i64 s1.2)] ∧ SL w [] w_ [Sl T_api_Instr v2 s1.1]) H ?_ ?_
   ·exact ⟨(.slice none 0 0), F1.sub ⟨rfl, rfl, rfl, trivial⟩, (SL.nilSl (T := T_api_Instr) s0)⟩
   ·intro s1 q2 w0 hI0 o1 H hr
    obtain ⟨v2, F2, s2⟩ := hI0
    replace H : flow_Scan_b0 a0 s1 = some o1 := H
    unfold flow_Scan_b0 at H
    refine wp_seq <| wp_seq <| wp_reg ?_
    refine st_pr F2 (PR.op (ex_move rfl) <| PR.op (ex_move rfl) <| PR.op (ex_len rfl Try.underlying22 (formL (rdL hr0 s2))) <| PR.op (ex_lt rfl rfl) <| PR.nil) fun q4 F3 => ?_
    refine st_end <| then_n ?_
    refine wp_if F3 rfl (fun hb0 => ?_) (fun hb0 => ?_)
    ·replace H := ite_t hb0 H
     refine wp_skip <| then_n <| wp_block <| wp_seq <| wp_reg ?_
     obtain ⟨x0, hx0, H⟩ := bind_ok H
     refine st_pr F3 (PR.op (ex_move rfl) <| PR.op (ex_move rfl) <| PR.nil) fun q5 F5 => ?_
     refine st_call (args := [.tmp 17, .tmp 18]) F5 Fx.fn52 rfl (code_Decode_c (a0 := a0) (a1 := s1.2)  (hr0.pass0 s2) hx0) rfl fun v3 w1 q6 hS0 F6 => ?_
     obtain ⟨rfl, hq0⟩ := hS0
     have s3 := s2.add hq0
     refine st_pr F6 (PR.op (ex_move rfl) <| PR.op (ex_extract (v := .agg ⟨[.int .i64 x0.1.At, .int .u8 (x0.1.Op.toNat : Int), .int .i64 x0.1.A, .int .i64 x0.1.B]⟩) rfl rfl) <| PR.op (ex_extract (v := .int .i64 x0.2) rfl rfl) <| PR.nil) fun q7 F7 => ?_
     refine st_alloc F7 s3 Fx.zero90 rfl rfl fun g0 w2 q8 F8 s4 => ?_
     have s5 := s4
     refine st_storea F8 s5 rfl rfl Fx.sz90 (one_cons rfl (one_cons rfl (one_cons rfl (one_cons rfl one_nil)))) (Nat.le_of_ble_eq_true rfl) fun w3 q9 F9 s6 => ?_
     replace s6 : SL w [] w3 [Blk g0 90 [.int .i64 x0.1.At, .int .u8 (x0.1.Op.toNat : Int), .int .i64 x0.1.A, .int .i64 x0.1.B], Sl T_api_Instr v2 s1.1] := s6
     refine st_pr F9 (PR.op (ex_asg rfl) <| PR.nil) fun q10 F10 => ?_
     refine st_end <| then_n <| wp_seq <| wp_seq <| wp_reg ?_
     refine st_pr F10 (PR.op (ex_move rfl) <| PR.op (ex_ne rfl rfl) <| PR.nil) fun q11 F11 => ?_
     refine st_end <| then_n ?_
     refine wp_if F11 rfl (fun hb1 => ?_) (fun hb1 => ?_)
     ·replace H := ite_t hb1 H
      refine wp_seq <| wp_reg ?_
      refine st_pr F11 (PR.op (ex_move rfl) <| PR.op (ex_move rfl) <| PR.op (ex_asg rfl) <| PR.op (ex_asg rfl) <| PR.op (ex_asg rfl) <| PR.nil) fun q12 F12 => ?_
      refine st_end <| then_n ?_
      obtain rfl := some_ok H
      obtain rfl := hr _ rfl
      replace H := R0
      dsimp only at H
      obtain rfl := some_ok H
      refine wp_ret ?_
      refine then_r <| blk_r <| then_r <| blk_r <| then_r <| then_r ?_
      refine ret_gen (rs := [.tmp 2, .tmp 3, .tmp 4]) (vs := [.slice none 0 0, .int .i64 s1.2, .int .i64 x0.2]) F12 (by rfl) ⟨_, _, rfl, RV.tmp rfl, _, _, rfl, RV.tmp rfl, _, _, rfl, RV.tmp rfl, rfl⟩ ⟨_, rfl, ⟨(.slice none 0 0), rfl, (SL.nilSl (T := T_api_Instr) s6).f1.drop.f1.drop⟩⟩
     ·replace H := ite_f hb1 H
      refine wp_skip <| then_n <| wp_seq <| wp_reg ?_
      refine st_pr F11 (PR.op (ex_move rfl) <| PR.op (ex_ldagg Fx.agg90 rfl (s6.blk_cells (.head _) (o := 0) (ds := [.int .i64 x0.1.At, .int .u8 (x0.1.Op.toNat : Int), .int .i64 x0.1.A, .int .i64 x0.1.B]) (fun j u hu => by rw [Nat.zero_add]; exact hu)) rfl) <| PR.nil) fun q13 F13 => ?_
      refine st_bslice (parts := [(0, .tmp 27)]) F_api_Instr ([(⟨x0.1.At, x0.1.Op, x0.1.A, x0.1.B⟩ : S_api_Instr)] : List S_api_Instr) F13 s6 Fx.sl67 rfl (by decide) rfl rfl rfl (by simp [Value.cells]) rfl rfl rfl fun v4 w4 q14 F14 s7 => ?_
      obtain ⟨x1, hx1, H⟩ := bind_ok H
      have s8 := s7.f2
      obtain ⟨_, hr_⟩ := (s8.own_rd (.tail _ <| .head _))
      refine st_append_rd F_api_Instr F14 s8 Fx.sl67 rfl rfl rfl rfl hr_ rfl rfl hx1 rfl fun v5 w5 q15 F15 s9 => ?_
      have s3245' := s9.f1.drop
      refine st_pr F15 (PR.op (ex_asg rfl) <| PR.nil) fun q17 F16 => ?_
      refine st_end <| then_n <| wp_reg ?_
      obtain ⟨x2, hx2, H⟩ := bind_ok H
      refine st_pr F16 (PR.op (ex_move rfl) <| PR.op (ex_fab Fx.fa90_1 rfl rfl) <| PR.op (ex_ld Fx.nag5 rfl (s3245'.blk_cell (.tail _ <| .head _) rfl)) <| PR.nil) fun q18 F18 => ?_
      refine st_call (args := [.tmp 32]) F18 Fx.fn53 rfl (code_Size_c (a0 := x0.1.Op)   hx2) rfl fun v6 w6 q19 hS1 F19 => ?_
      obtain ⟨rfl, hq1⟩ := hS1
      have s10 := s3245'.add hq1
      refine st_pr F19 (PR.op (ex_add rfl rfl) <| PR.op (ex_asg rfl) <| PR.nil) fun q20 F20 => ?_
      refine st_end ?_
      refine blk_n ?_
      obtain rfl := some_ok H
      refine then_n ?_
      exact ⟨_, rfl, v5, F20.sub ⟨rfl, rfl, rfl, trivial⟩, s10.f1.drop⟩
    ·replace H := ite_f hb0 H
     refine wp_exit <| then_x <| then_x <| blk_hit ?_
     obtain rfl := some_ok H
     obtain rfl := hr _ rfl
     refine then_n ?_
     exact ⟨_, rfl, v2, F3.sub ⟨rfl, trivial⟩, s2⟩
  ·intro q22 w7 hJ
   obtain ⟨p0, rfl, v1, F21, s11⟩ := hJ
   have H := R0
   clear R0 H0
   dsimp only at H
   refine then_n <| wp_seq <| wp_reg ?_
   refine st_pr F21 (PR.op (ex_move rfl) <| PR.op (ex_asg rfl) <| PR.op (ex_asg rfl) <| PR.op (ex_asg rfl) <| PR.nil) fun q23 F23 => ?_
   refine st_end <| then_n ?_
   obtain rfl := some_ok H
   refine wp_ret ?_
   refine ret_gen (rs := [.tmp 2, .tmp 3, .tmp 4]) (vs := [v1, .int .i64 0, .int .i64 0]) F23 (by rfl) ⟨_, _, rfl, RV.tmp rfl, _, _, rfl, RV.tmp rfl, _, _, rfl, RV.tmp rfl, rfl⟩ ⟨_, rfl, ⟨v1, rfl, s11⟩⟩
-- The walk of proviso/flow.addresses.
theorem flow_addresses_c {w : World} {v0 : Value} {a0 : List S_api_Instr} {r : (List (Int × Int))} (hr0 : Rd T_api_Instr w [] v0 a0) (H : flow_addresses a0 = some r) :
  Calls Try.prog 54 #[v0] w (Ret fun u_ w_ => ∃ k0 : Nat, u_ = .map (some k0) ∧ SL w [] w_ [Mp (Value.int .i64) (Value.int .i64) k0 r]) := by
 have s0 : SL w [] w [] := SL.init0 w
 refine call_enter Try.func54 rfl Try.ntmps54 (Nat.le_of_ble_eq_true rfl) (args := [v0]) fun q0 F0 => ?_
 unfold flow_addresses at H
 refine wp_seq <| wp_reg ?_
 refine st_pr F0 (PR.op (ex_asg rfl) <| PR.nil) fun q3 F4 => ?_
 refine st_end <| then_n <| wp_seq <| wp_reg ?_
 refine st_mkmap (Value.int .i64) (Value.int .i64) F4 s0 rfl fun g13 w14 q15 F16 s17 => ?_
 refine st_pr F16 (PR.op (ex_asg rfl) <| PR.nil) fun q19 F20 => ?_
 refine st_end <| then_n <| wp_seq <| wp_seq <| wp_reg ?_
 refine st_pr F20 (PR.op (ex_move rfl) <| PR.op (ex_len rfl Try.underlying67 (formL (rdL hr0 s17))) <| PR.op (ex_move rfl) <| PR.nil) fun q1 F1 => ?_
 refine st_end <| then_n ?_
 obtain ⟨o0, H0, R0⟩ := bind_ok H
 clear H
 refine wp_cutn (fun a w_ => Fr a 31 [(3, .map (some g13))] ∧ SL w [] w_ [Mp (Value.int .i64) (Value.int .i64) g13 o0]) ?_ ?_
 ·have H := H0
  refine wp_block ?_
  refine wp_lp (flow_addresses_b0 a0) (fun s1 a w_ => Fr a 31 [(3, .map (some g13)), (9, v0), (10, .int .i64 (a0.length : Int)), (11, .int .i64 s1.2)] ∧ SL w [] w_ [Mp (Value.int .i64) (Value.int .i64) g13 s1.1]) H ?_ ?_
  ·exact ⟨F1.sub ⟨rfl, rfl, rfl, rfl, trivial⟩, s17⟩
  ·intro s1 q2 w0 hI0 o1 H hr
   obtain ⟨F2, s2⟩ := hI0
   replace H : flow_addresses_b0 a0 s1 = some o1 := H
   unfold flow_addresses_b0 at H
   refine wp_seq <| wp_reg ?_
   refine st_pr F2 (PR.op (ex_lt rfl rfl) <| PR.nil) fun q4 F3 => ?_
   refine st_end <| then_n <| wp_seq ?_
   refine wp_if F3 rfl (fun hb0 => ?_) (fun hb0 => ?_)
   ·replace H := ite_t hb0 H
    refine wp_skip <| then_n <| wp_seq <| wp_block <| wp_seq <| wp_reg ?_
    obtain ⟨x0, hx0, H⟩ := bind_ok H
    obtain ⟨a1, hi0, hc0⟩ := idxL F_api_Instr (rdL hr0 s2) Fx.sl67 rfl hx0
    refine st_pr F3 (PR.op (ex_move rfl) <| PR.op (hi0 _ _ _ _ _ _ _ _ _ _ rfl rfl) <| PR.op (ex_ldagg Fx.agg90 rfl hc0 rfl) <| PR.nil) fun q5 F5 => ?_
    refine st_alloc F5 s2 Fx.zero90 rfl rfl fun g0 w1 q6 F6 s3 => ?_
    refine st_pr F6 (PR.op (ex_asg rfl) <| PR.nil) fun q7 F7 => ?_
    have s4 := s3
    refine st_storea F7 s4 rfl rfl Fx.sz90 (one_cons rfl (one_cons rfl (one_cons rfl (one_cons rfl one_nil)))) (Nat.le_of_ble_eq_true rfl) fun w2 q8 F8 s5 => ?_
    replace s5 : SL w [] w2 [Blk g0 90 [.int .i64 x0.At, .int .u8 (x0.Op.toNat : Int), .int .i64 x0.A, .int .i64 x0.B], Mp (Value.int .i64) (Value.int .i64) g13 s1.1] := s5
    refine st_end <| then_n <| wp_seq <| wp_reg ?_
    refine st_pr F8 (PR.op (ex_move rfl) <| PR.op (ex_fab Fx.fa90_0 rfl rfl) <| PR.op (ex_ld Fx.nag3 rfl (s5.blk_cell (.head _) rfl)) <| PR.op (ex_lookup2 (k := x0.At) (z0 := (0 : Int)) s5 (.tail _ <| .head _) Try.underlying109 Fx.key3 Fx.mz3 rfl rfl) <| PR.op (ex_move rfl) <| PR.op (ex_extract (v := .int .i64 ((mget s1.1 x0.At).getD (0 : Int))) rfl rfl) <| PR.op (ex_extract (v := .bool ((mget s1.1 x0.At).isSome)) rfl rfl) <| PR.op (ex_asg rfl) <| PR.op (ex_asg rfl) <| PR.nil) fun q9 F9 => ?_
    refine st_end <| then_n <| wp_seq <| wp_reg ?_
    refine st_pr F9 (PR.op (ex_move rfl) <| PR.op (ex_not rfl) <| PR.nil) fun q10 F10 => ?_
    refine st_end <| then_n ?_
    refine wp_if F10 rfl (fun hb1 => ?_) (fun hb1 => ?_)
    ·replace H := ite_t hb1 H
     refine wp_reg ?_
     refine st_pr F10 (PR.op (ex_move rfl) <| PR.op (ex_fab Fx.fa90_0 rfl rfl) <| PR.op (ex_ld Fx.nag3 rfl (s5.blk_cell (.head _) rfl)) <| PR.op (ex_move rfl) <| PR.nil) fun q11 F11 => ?_
     refine st_mapset (k := x0.At) (u := s1.2) F11 s5.f1 Try.underlying109 Fx.key3 rfl rfl rfl fun w3 q12 F12 s6 => ?_
     refine st_end ?_
     refine blk_n ?_
     refine then_n <| wp_reg ?_
     refine st_pr F12 (PR.op (ex_add rfl rfl) <| PR.op (ex_move rfl) <| PR.nil) fun q13 F13 => ?_
     refine st_end ?_
     obtain rfl := some_ok H
     refine then_n ?_
     exact ⟨_, rfl, F13.sub ⟨rfl, rfl, rfl, rfl, trivial⟩, s6.f1.drop⟩
    ·replace H := ite_f hb1 H
     refine wp_skip ?_
     refine blk_n ?_
     refine then_n <| wp_reg ?_
     refine st_pr F10 (PR.op (ex_add rfl rfl) <| PR.op (ex_move rfl) <| PR.nil) fun q14 F14 => ?_
     refine st_end ?_
     obtain rfl := some_ok H
     refine then_n ?_
     exact ⟨_, rfl, F14.sub ⟨rfl, rfl, rfl, rfl, trivial⟩, s5.drop⟩
   ·replace H := ite_f hb0 H
    refine wp_exit <| then_x <| then_x <| blk_hit ?_
    obtain rfl := some_ok H
    obtain rfl := hr _ rfl
    refine then_n ?_
    exact ⟨F3.sub ⟨rfl, trivial⟩, s2⟩
 ·intro q16 w4 hJ
  obtain ⟨F15, s7⟩ := hJ
  have H := R0
  clear R0 H0
  refine then_n <| wp_seq <| wp_reg ?_
  refine st_pr F15 (PR.op (ex_move rfl) <| PR.op (ex_asg rfl) <| PR.nil) fun q17 F17 => ?_
  refine st_end <| then_n ?_
  obtain rfl := some_ok H
  refine wp_ret ?_
  refine ret_gen (rs := [.tmp 2]) (vs := [.map (some g13)]) F17 (by rfl) ⟨_, _, rfl, RV.tmp rfl, rfl⟩ ⟨_, rfl, ⟨g13, rfl, s7⟩⟩
-- The walk of proviso/code.Jumps.
theorem code_Jumps_c {w : World} {a0 : UInt8} {r : Bool}  (H : code_Jumps a0 = some r) :
  Calls Try.prog 55 #[.int .u8 (a0.toNat : Int)] w (Ret fun u_ w_ => u_ = .bool r ∧ SL w [] w_ []) := by
 have s0 : SL w [] w [] := SL.init0 w
 refine call_enter Try.func55 rfl Try.ntmps55 (Nat.le_of_ble_eq_true rfl) (args := [.int .u8 (a0.toNat : Int)]) fun q0 F0 => ?_
 unfold code_Jumps at H
 refine wp_seq <| wp_reg ?_
 refine st_pr F0 (PR.op (ex_asg rfl) <| PR.nil) fun q3 F4 => ?_
 refine st_end <| then_n <| wp_seq <| wp_reg ?_
 refine st_pr F4 (PR.op (ex_move rfl) <| PR.op (ex_eq rfl rfl) <| PR.op (ex_move rfl) <| PR.nil) fun q20 F21 => ?_
 refine bool_split ((a0.toNat : Int) == 19) (fun hb22 => ?_) (fun hb22 => ?_)
 ·replace H := ite_t hb22 H
  refine st_gskip F21 rfl rfl (look_b rfl hb22) Bool.noConfusion rfl rfl fun q23 F24 => ?_
  refine st_gskip F24 rfl rfl (look_b rfl hb22) Bool.noConfusion rfl rfl fun q25 F26 => ?_
  refine st_pr F26 (PR.op (ex_pick_t (ev_b rfl hb22) rfl) <| PR.op (ex_asg rfl) <| PR.nil) fun q27 F28 => ?_
  refine st_end <| then_n ?_
  obtain rfl := some_ok H
  refine wp_ret ?_
  refine ret_gen (rs := [.tmp 2]) (vs := [.bool true]) F28 (by rfl) ⟨_, _, rfl, RV.tmp rfl, rfl⟩ ⟨_, rfl, ⟨rfl, s0⟩⟩
 ·replace H := ite_f hb22 H
  refine st_gop F21 rfl rfl (look_b rfl hb22) (ex_move rfl) rfl rfl fun q29 F30 => ?_
  refine st_gop F30 rfl rfl (look_b rfl hb22) (ex_eq rfl rfl) rfl rfl fun q31 F32 => ?_
  refine st_pr F32 (PR.op (ex_pick_f (ev_b rfl hb22) rfl) <| PR.op (ex_asg rfl) <| PR.nil) fun q33 F34 => ?_
  refine st_end <| then_n ?_
  obtain rfl := some_ok H
  refine wp_ret ?_
  refine ret_gen (rs := [.tmp 2]) (vs := [.bool ((a0.toNat : Int) == 20)]) F34 (by rfl) ⟨_, _, rfl, RV.tmp rfl, rfl⟩ ⟨_, rfl, ⟨rfl, s0⟩⟩
-- The walk of proviso/code.Ends.
theorem code_Ends_c {w : World} {a0 : UInt8} {r : Bool}  (H : code_Ends a0 = some r) :
  Calls Try.prog 56 #[.int .u8 (a0.toNat : Int)] w (Ret fun u_ w_ => u_ = .bool r ∧ SL w [] w_ []) := by
 have s0 : SL w [] w [] := SL.init0 w
 refine call_enter Try.func56 rfl Try.ntmps56 (Nat.le_of_ble_eq_true rfl) (args := [.int .u8 (a0.toNat : Int)]) fun q0 F0 => ?_
 unfold code_Ends at H
 refine wp_seq <| wp_reg ?_
 refine st_pr F0 (PR.op (ex_asg rfl) <| PR.nil) fun q3 F4 => ?_
 refine st_end <| then_n <| wp_seq <| wp_reg ?_
 refine st_pr F4 (PR.op (ex_move rfl) <| PR.op (ex_eq rfl rfl) <| PR.op (ex_move rfl) <| PR.nil) fun q39 F40 => ?_
 refine bool_split ((a0.toNat : Int) == 19) (fun hb41 => ?_) (fun hb41 => ?_)
 ·replace H := ite_t hb41 H
  refine st_gskip F40 rfl rfl (look_b rfl hb41) Bool.noConfusion rfl rfl fun q42 F43 => ?_
  refine st_gskip F43 rfl rfl (look_b rfl hb41) Bool.noConfusion rfl rfl fun q44 F45 => ?_
  refine st_pr F45 (PR.op (ex_pick_t (ev_b rfl hb41) rfl) <| PR.op (ex_move rfl) <| PR.nil) fun q46 F47 => ?_
  refine st_gskip F47 rfl rfl rfl Bool.noConfusion rfl rfl fun q48 F49 => ?_
  refine st_gskip F49 rfl rfl rfl Bool.noConfusion rfl rfl fun q50 F51 => ?_
  refine st_pr F51 (PR.op (ex_pick_t rfl rfl) <| PR.op (ex_asg rfl) <| PR.nil) fun q52 F53 => ?_
  refine st_end <| then_n ?_
  obtain rfl := some_ok H
  refine wp_ret ?_
  refine ret_gen (rs := [.tmp 2]) (vs := [.bool true]) F53 (by rfl) ⟨_, _, rfl, RV.tmp rfl, rfl⟩ ⟨_, rfl, ⟨rfl, s0⟩⟩
 ·replace H := ite_f hb41 H
  refine st_gop F40 rfl rfl (look_b rfl hb41) (ex_move rfl) rfl rfl fun q54 F55 => ?_
  refine st_gop F55 rfl rfl (look_b rfl hb41) (ex_eq rfl rfl) rfl rfl fun q56 F57 => ?_
  refine st_pr F57 (PR.op (ex_pick_f (ev_b rfl hb41) rfl) <| PR.op (ex_move rfl) <| PR.nil) fun q58 F59 => ?_
  refine bool_split ((a0.toNat : Int) == 22) (fun hb60 => ?_) (fun hb60 => ?_)
  ·replace H := ite_t hb60 H
   refine st_gskip F59 rfl rfl (look_b rfl hb60) Bool.noConfusion rfl rfl fun q61 F62 => ?_
   refine st_gskip F62 rfl rfl (look_b rfl hb60) Bool.noConfusion rfl rfl fun q63 F64 => ?_
   refine st_pr F64 (PR.op (ex_pick_t (ev_b rfl hb60) rfl) <| PR.op (ex_asg rfl) <| PR.nil) fun q65 F66 => ?_
   refine st_end <| then_n ?_
   obtain rfl := some_ok H
   refine wp_ret ?_
   refine ret_gen (rs := [.tmp 2]) (vs := [.bool true]) F66 (by rfl) ⟨_, _, rfl, RV.tmp rfl, rfl⟩ ⟨_, rfl, ⟨rfl, s0⟩⟩
  ·replace H := ite_f hb60 H
   refine st_gop F59 rfl rfl (look_b rfl hb60) (ex_move rfl) rfl rfl fun q67 F68 => ?_
   refine st_gop F68 rfl rfl (look_b rfl hb60) (ex_eq rfl rfl) rfl rfl fun q69 F70 => ?_
   refine st_pr F70 (PR.op (ex_pick_f (ev_b rfl hb60) rfl) <| PR.op (ex_asg rfl) <| PR.nil) fun q71 F72 => ?_
   refine st_end <| then_n ?_
   obtain rfl := some_ok H
   refine wp_ret ?_
   refine ret_gen (rs := [.tmp 2]) (vs := [.bool ((a0.toNat : Int) == 32)]) F72 (by rfl) ⟨_, _, rfl, RV.tmp rfl, rfl⟩ ⟨_, rfl, ⟨rfl, s0⟩⟩
-- The walk of proviso/flow.Check.
theorem flow_Check_c {w : World} {v0 : Value} {a0 : List UInt8} {r : Int × Int} (hr0 : Rd Ty.u8 w [] v0 a0) (H : flow_Check a0 = some r) :
  Calls Try.prog 28 #[v0] w (Ret fun u_ w_ => u_ = .tuple ⟨[.int .i64 r.1, .int .i64 r.2]⟩ ∧ SL w [] w_ []) := by
 have s0 : SL w [] w [] := SL.init0 w
 refine call_enter Try.func28 rfl Try.ntmps28 (Nat.le_of_ble_eq_true rfl) (args := [v0]) fun q0 F0 => ?_
 unfold flow_Check at H
 refine wp_seq <| wp_reg ?_
 refine st_pr F0 (PR.op (ex_asg rfl) <| PR.op (ex_asg rfl) <| PR.nil) fun q3 F4 => ?_
 refine st_end <| then_n <| wp_seq <| wp_reg ?_
 obtain ⟨x20, hx21, H⟩ := bind_ok H
 refine st_pr F4 (PR.op (ex_move rfl) <| PR.nil) fun q22 F23 => ?_
 refine st_call (args := [.tmp 14]) F23 Fx.fn27 rfl (flow_Scan_c (a0 := a0)  (hr0.pass0 s0) hx21) rfl fun v24 w25 q26 hS28 F27 => ?_
 obtain ⟨v31, rfl, hq30⟩ := hS28
 have s29 := s0.add hq30
 refine st_pr F27 (PR.op (ex_move rfl) <| PR.op (ex_extract (v := v31) rfl rfl) <| PR.op (ex_extract (v := .int .i64 x20.2.1) rfl rfl) <| PR.op (ex_extract (v := .int .i64 x20.2.2) rfl rfl) <| PR.op (ex_asg rfl) <| PR.op (ex_asg rfl) <| PR.op (ex_asg rfl) <| PR.nil) fun q33 F34 => ?_
 refine st_end <| then_n <| wp_seq <| wp_seq <| wp_reg ?_
 refine st_pr F34 (PR.op (ex_move rfl) <| PR.op (ex_ne rfl rfl) <| PR.nil) fun q46 F47 => ?_
 refine st_end <| then_n ?_
 refine wp_if F47 rfl (fun hb48 => ?_) (fun hb48 => ?_)
 ·replace H := ite_t hb48 H
  refine wp_seq <| wp_reg ?_
  refine st_pr F47 (PR.op (ex_move rfl) <| PR.op (ex_move rfl) <| PR.op (ex_asg rfl) <| PR.op (ex_asg rfl) <| PR.nil) fun q51 F52 => ?_
  refine st_end <| then_n ?_
  obtain rfl := some_ok H
  refine wp_ret ?_
  refine then_r ?_
  refine ret_gen (rs := [.tmp 2, .tmp 3]) (vs := [.int .i64 x20.2.1, .int .i64 x20.2.2]) F52 (by rfl) ⟨_, _, rfl, RV.tmp rfl, _, _, rfl, RV.tmp rfl, rfl⟩ ⟨_, rfl, ⟨rfl, s29.drop⟩⟩
 ·replace H := ite_f hb48 H
  refine wp_skip <| then_n <| wp_seq <| wp_reg ?_
  obtain ⟨x68, hx69, H⟩ := bind_ok H
  refine st_pr F47 (PR.op (ex_move rfl) <| PR.nil) fun q70 F71 => ?_
  refine st_call (args := [.tmp 23]) F71 Fx.fn54 rfl (flow_addresses_c (a0 := x20.1)  (s29.rd0 (.head _)) hx69) rfl fun v72 w73 q74 hS76 F75 => ?_
  obtain ⟨g79, rfl, hq78⟩ := hS76
  have s77 := s29.add hq78
  refine st_pr F75 (PR.op (ex_asg rfl) <| PR.nil) fun q81 F82 => ?_
  refine st_end <| then_n <| wp_seq <| wp_seq <| wp_reg ?_
  refine st_pr F82 (PR.op (ex_move rfl) <| PR.op (ex_len rfl Try.underlying67 (formL (s77.own_rd (.tail _ <| .head _)))) <| PR.op (ex_move rfl) <| PR.nil) fun q1 F1 => ?_
  refine st_end <| then_n ?_
  obtain ⟨o0, H0, R0⟩ := bind_ok H
  clear H
  refine wp_cutn (fun a w_ => ∃ p0 : Unit, o0 = .inr (p0) ∧ Fr a 63 [(4, v31)] ∧ SL w [] w_ [Sl T_api_Instr v31 x20.1]) ?_ ?_
  ·have H := H0
   refine wp_block ?_
   refine wp_lp (flow_Check_b0 x20 x68) (fun s1 a w_ => Fr a 63 [(4, v31), (7, .map (some g79)), (25, v31), (26, .int .i64 (x20.1.length : Int)), (27, .int .i64 s1)] ∧ SL w [] w_ [Mp (Value.int .i64) (Value.int .i64) g79 x68, Sl T_api_Instr v31 x20.1]) H ?_ ?_
   ·exact ⟨F1.sub ⟨rfl, rfl, rfl, rfl, rfl, trivial⟩, s77⟩
   ·intro s1 q2 w0 hI0 o1 H hr
    obtain ⟨F2, s2⟩ := hI0
    replace H : flow_Check_b0 x20 x68 s1 = some o1 := H
    unfold flow_Check_b0 at H
    refine wp_seq <| wp_reg ?_
    refine st_pr F2 (PR.op (ex_lt rfl rfl) <| PR.nil) fun q4 F3 => ?_
    refine st_end <| then_n <| wp_seq ?_
    refine wp_if F3 rfl (fun hb0 => ?_) (fun hb0 => ?_)
    ·replace H := ite_t hb0 H
     refine wp_skip <| then_n <| wp_seq <| wp_block <| wp_seq <| wp_reg ?_
     obtain ⟨x0, hx0, H⟩ := bind_ok H
     obtain ⟨a1, hi0, he0⟩ := own_idx F_api_Instr s2 (.tail _ <| .head _) Fx.sl67 rfl hx0
     refine st_pr F3 (PR.op (hi0 _ _ _ _ _ _ _ _ _ _ rfl rfl) <| PR.op (ex_ldagg Fx.agg90 rfl (SL.elcells F_api_Instr s2 (.tail _ <| .head _) he0 hx0) rfl) <| PR.nil) fun q5 F5 => ?_
     refine st_alloc F5 s2 Fx.zero90 rfl rfl fun g0 w1 q6 F6 s3 => ?_
     have s4 := s3
     refine st_storea F6 s4 rfl rfl Fx.sz90 (one_cons rfl (one_cons rfl (one_cons rfl (one_cons rfl one_nil)))) (Nat.le_of_ble_eq_true rfl) fun w2 q7 F7 s5 => ?_
     replace s5 : SL w [] w2 [Blk g0 90 [.int .i64 x0.At, .int .u8 (x0.Op.toNat : Int), .int .i64 x0.A, .int .i64 x0.B], Mp (Value.int .i64) (Value.int .i64) g79 x68, Sl T_api_Instr v31 x20.1] := s5
     refine st_end <| then_n <| wp_seq <| wp_reg ?_
     refine st_pr F7 (PR.op (ex_move rfl) <| PR.op (ex_fab Fx.fa90_2 rfl rfl) <| PR.op (ex_ld Fx.nag3 rfl (s5.blk_cell (.head _) rfl)) <| PR.op (ex_lookup2 (k := x0.A) (z0 := (0 : Int)) s5 (.tail _ <| .head _) Try.underlying109 Fx.key3 Fx.mz3 rfl rfl) <| PR.op (ex_move rfl) <| PR.op (ex_extract (v := .int .i64 ((mget x68 x0.A).getD (0 : Int))) rfl rfl) <| PR.op (ex_extract (v := .bool ((mget x68 x0.A).isSome)) rfl rfl) <| PR.op (ex_asg rfl) <| PR.op (ex_asg rfl) <| PR.nil) fun q8 F8 => ?_
     refine st_end <| then_n <| wp_seq <| wp_reg ?_
     obtain ⟨x1, hx1, H⟩ := bind_ok H
     refine st_pr F8 (PR.op (ex_fab Fx.fa90_1 rfl rfl) <| PR.op (ex_ld Fx.nag5 rfl (s5.blk_cell (.head _) rfl)) <| PR.nil) fun q9 F9 => ?_
     refine st_call (args := [.tmp 39]) F9 Fx.fn55 rfl (code_Jumps_c (a0 := x0.Op)   hx1) rfl fun v1 w3 q10 hS0 F10 => ?_
     obtain ⟨rfl, hq0⟩ := hS0
     have s6 := s5.add hq0
     refine st_pr F10 (PR.op (ex_move rfl) <| PR.nil) fun q11 F11 => ?_
     refine bool_split x1 (fun hb1 => ?_) (fun hb1 => ?_)
     ·replace H := ite_t hb1 H
      refine st_gop F11 rfl rfl (look_b rfl hb1) (ex_move rfl) rfl rfl fun q12 F12 => ?_
      refine st_gop F12 rfl rfl (look_b rfl hb1) (ex_not rfl) rfl rfl fun q13 F13 => ?_
      refine st_pr F13 (PR.op (ex_pick_t (ev_b rfl hb1) rfl) <| PR.nil) fun q14 F14 => ?_
      refine st_end <| then_n ?_
      refine wp_if F14 rfl (fun hb2 => ?_) (fun hb2 => ?_)
      ·replace H := ite_t hb2 H
       refine wp_seq <| wp_reg ?_
       refine st_pr F14 (PR.op (ex_fab Fx.fa90_0 rfl rfl) <| PR.op (ex_ld Fx.nag3 rfl (s6.blk_cell (.head _) rfl)) <| PR.op (ex_asg rfl) <| PR.op (ex_asg rfl) <| PR.nil) fun q15 F15 => ?_
       refine st_end <| then_n ?_
       obtain rfl := some_ok H
       obtain rfl := hr _ rfl
       replace H := R0
       dsimp only at H
       obtain rfl := some_ok H
       refine wp_ret ?_
       refine blk_r <| then_r <| then_r <| blk_r <| then_r <| then_r ?_
       refine ret_gen (rs := [.tmp 2, .tmp 3]) (vs := [.int .i64 x0.At, .int .i64 50]) F15 (by rfl) ⟨_, _, rfl, RV.tmp rfl, _, _, rfl, RV.tmp rfl, rfl⟩ ⟨_, rfl, ⟨rfl, s6.drop.drop.drop⟩⟩
      ·replace H := ite_f hb2 H
       refine wp_skip ?_
       refine blk_n ?_
       refine then_n <| wp_reg ?_
       refine st_pr F14 (PR.op (ex_add rfl rfl) <| PR.op (ex_move rfl) <| PR.nil) fun q16 F16 => ?_
       refine st_end ?_
       obtain rfl := some_ok H
       refine then_n ?_
       exact ⟨_, rfl, F16.sub ⟨rfl, rfl, rfl, rfl, rfl, trivial⟩, s6.drop⟩
     ·replace H := ite_f hb1 H
      refine st_gskip F11 rfl rfl (look_b rfl hb1) Bool.noConfusion rfl rfl fun q17 F17 => ?_
      refine st_gskip F17 rfl rfl (look_b rfl hb1) Bool.noConfusion rfl rfl fun q18 F18 => ?_
      refine st_pr F18 (PR.op (ex_pick_f (ev_b rfl hb1) rfl) <| PR.nil) fun q19 F19 => ?_
      refine st_end <| then_n ?_
      refine wp_if_f F19 rfl ?_
      refine wp_skip ?_
      refine blk_n ?_
      refine then_n <| wp_reg ?_
      refine st_pr F19 (PR.op (ex_add rfl rfl) <| PR.op (ex_move rfl) <| PR.nil) fun q20 F20 => ?_
      refine st_end ?_
      obtain rfl := some_ok H
      refine then_n ?_
      exact ⟨_, rfl, F20.sub ⟨rfl, rfl, rfl, rfl, rfl, trivial⟩, s6.drop⟩
    ·replace H := ite_f hb0 H
     refine wp_exit <| then_x <| then_x <| blk_hit ?_
     obtain rfl := some_ok H
     obtain rfl := hr _ rfl
     refine then_n ?_
     exact ⟨_, rfl, F3.sub ⟨rfl, trivial⟩, s2.drop⟩
  ·intro q21 w4 hJ
   obtain ⟨p0, rfl, F21, s7⟩ := hJ
   have H := R0
   clear R0 H0
   dsimp only at H
   refine then_n <| wp_seq <| wp_seq <| wp_reg ?_
   refine st_pr F21 (PR.op (ex_move rfl) <| PR.op (ex_len rfl Try.underlying67 (formL (s7.own_rd (.head _)))) <| PR.op (ex_eq rfl rfl) <| PR.nil) fun q23 F22 => ?_
   refine st_end <| then_n ?_
   refine wp_if F22 rfl (fun hb3 => ?_) (fun hb3 => ?_)
   ·replace H := ite_t hb3 H
    refine wp_seq <| wp_reg ?_
    refine st_pr F22 (PR.op (ex_asg rfl) <| PR.op (ex_asg rfl) <| PR.nil) fun q24 F24 => ?_
    refine st_end <| then_n ?_
    obtain rfl := some_ok H
    refine wp_ret ?_
    refine then_r ?_
    refine ret_gen (rs := [.tmp 2, .tmp 3]) (vs := [.int .i64 0, .int .i64 51]) F24 (by rfl) ⟨_, _, rfl, RV.tmp rfl, _, _, rfl, RV.tmp rfl, rfl⟩ ⟨_, rfl, ⟨rfl, s7.drop⟩⟩
   ·replace H := ite_f hb3 H
    refine wp_skip <| then_n <| wp_seq <| wp_reg ?_
    obtain ⟨x2, hx2, H⟩ := bind_ok H
    obtain ⟨a2, hi1, he1⟩ := own_idx F_api_Instr s7 (.head _) Fx.sl67 rfl hx2
    refine st_pr F22 (PR.op (ex_move rfl) <| PR.op (ex_move rfl) <| PR.op (ex_len rfl Try.underlying67 (formL (s7.own_rd (.head _)))) <| PR.op (ex_sub rfl rfl) <| PR.op (hi1 _ _ _ _ _ _ _ _ _ _ rfl rfl) <| PR.op (ex_ldagg Fx.agg90 rfl (SL.elcells F_api_Instr s7 (.head _) he1 hx2) rfl) <| PR.nil) fun q25 F25 => ?_
    refine st_alloc F25 s7 Fx.zero90 rfl rfl fun g1 w5 q27 F26 s8 => ?_
    have s9 := s8
    refine st_storea F26 s9 rfl rfl Fx.sz90 (one_cons rfl (one_cons rfl (one_cons rfl (one_cons rfl one_nil)))) (Nat.le_of_ble_eq_true rfl) fun w6 q28 F28 s10 => ?_
    replace s10 : SL w [] w6 [Blk g1 90 [.int .i64 x2.At, .int .u8 (x2.Op.toNat : Int), .int .i64 x2.A, .int .i64 x2.B], Sl T_api_Instr v31 x20.1] := s10
    refine st_end <| then_n <| wp_seq <| wp_seq <| wp_reg ?_
    obtain ⟨x3, hx3, H⟩ := bind_ok H
    refine st_pr F28 (PR.op (ex_fab Fx.fa90_1 rfl rfl) <| PR.op (ex_ld Fx.nag5 rfl (s10.blk_cell (.head _) rfl)) <| PR.nil) fun q29 F29 => ?_
    refine st_call (args := [.tmp 58]) F29 Fx.fn56 rfl (code_Ends_c (a0 := x2.Op)   hx3) rfl fun v2 w7 q30 hS1 F30 => ?_
    obtain ⟨rfl, hq1⟩ := hS1
    have s11 := s10.add hq1
    refine st_pr F30 (PR.op (ex_not rfl) <| PR.nil) fun q31 F31 => ?_
    refine st_end <| then_n ?_
    refine wp_if F31 rfl (fun hb4 => ?_) (fun hb4 => ?_)
    ·replace H := ite_t hb4 H
     refine wp_seq <| wp_reg ?_
     refine st_pr F31 (PR.op (ex_fab Fx.fa90_0 rfl rfl) <| PR.op (ex_ld Fx.nag3 rfl (s11.blk_cell (.head _) rfl)) <| PR.op (ex_asg rfl) <| PR.op (ex_asg rfl) <| PR.nil) fun q32 F32 => ?_
     refine st_end <| then_n ?_
     obtain rfl := some_ok H
     refine wp_ret ?_
     refine then_r ?_
     refine ret_gen (rs := [.tmp 2, .tmp 3]) (vs := [.int .i64 x2.At, .int .i64 51]) F32 (by rfl) ⟨_, _, rfl, RV.tmp rfl, _, _, rfl, RV.tmp rfl, rfl⟩ ⟨_, rfl, ⟨rfl, s11.drop.drop⟩⟩
    ·replace H := ite_f hb4 H
     refine wp_skip <| then_n <| wp_seq <| wp_reg ?_
     refine st_pr F31 (PR.op (ex_asg rfl) <| PR.op (ex_asg rfl) <| PR.nil) fun q34 F33 => ?_
     refine st_end <| then_n ?_
     obtain rfl := some_ok H
     refine wp_ret ?_
     refine ret_gen (rs := [.tmp 2, .tmp 3]) (vs := [.int .i64 0, .int .i64 0]) F33 (by rfl) ⟨_, _, rfl, RV.tmp rfl, _, _, rfl, RV.tmp rfl, rfl⟩ ⟨_, rfl, ⟨rfl, s11.drop.drop⟩⟩
-- The walk of proviso/opt.items.
theorem opt_items_c {w : World} {v0 : Value} {a0 : List UInt8} {r : (List S_opt_item)} (hr0 : Rd Ty.u8 w [] v0 a0) (H : opt_items a0 = some r) :
  Calls Try.prog 43 #[v0] w (Ret fun u_ w_ => ∃ u0 : Value, u_ = u0 ∧ SL w [] w_ [Sl T_opt_item u0 r]) := by
 have s0 : SL w [] w [] := SL.init0 w
 refine call_enter Try.func43 rfl Try.ntmps43 (Nat.le_of_ble_eq_true rfl) (args := [v0]) fun q0 F0 => ?_
 unfold opt_items at H
 refine wp_seq <| wp_reg ?_
 refine st_pr F0 (PR.op (ex_asg rfl) <| PR.nil) fun q3 F4 => ?_
 refine st_end <| then_n <| wp_seq <| wp_reg ?_
 obtain ⟨x20, hx21, H⟩ := bind_ok H
 refine st_pr F4 (PR.op (ex_move rfl) <| PR.nil) fun q22 F23 => ?_
 refine st_call (args := [.tmp 14]) F23 Fx.fn27 rfl (flow_Scan_c (a0 := a0)  (hr0.pass0 s0) hx21) rfl fun v24 w25 q26 hS28 F27 => ?_
 obtain ⟨v31, rfl, hq30⟩ := hS28
 have s29 := s0.add hq30
 refine st_pr F27 (PR.op (ex_move rfl) <| PR.op (ex_extract (v := v31) rfl rfl) <| PR.op (ex_extract (v := .int .i64 x20.2.1) rfl rfl) <| PR.op (ex_extract (v := .int .i64 x20.2.2) rfl rfl) <| PR.op (ex_asg rfl) <| PR.op (ex_asg rfl) <| PR.op (ex_asg rfl) <| PR.nil) fun q33 F34 => ?_
 refine st_end <| then_n <| wp_seq <| wp_reg ?_
 refine st_mkmap (Value.int .i64) (Value.int .i64) F34 s29 rfl fun g43 w44 q45 F46 s47 => ?_
 refine st_pr F46 (PR.op (ex_asg rfl) <| PR.nil) fun q49 F50 => ?_
 refine st_end <| then_n <| wp_seq <| wp_seq <| wp_reg ?_
 refine st_pr F50 (PR.op (ex_move rfl) <| PR.op (ex_len rfl Try.underlying67 (formL (s47.own_rd (.tail _ <| .head _)))) <| PR.op (ex_move rfl) <| PR.nil) fun q1 F1 => ?_
 refine st_end <| then_n ?_
 obtain ⟨o0, H0, R0⟩ := bind_ok H
 clear H
 refine wp_cutn (fun a w_ => Fr a 54 [(3, v31), (6, .map (some g43))] ∧ SL w [] w_ [Mp (Value.int .i64) (Value.int .i64) g43 o0, Sl T_api_Instr v31 x20.1]) ?_ ?_
 ·have H := H0
  refine wp_block ?_
  refine wp_lp (opt_items_b0 x20) (fun s1 a w_ => Fr a 54 [(3, v31), (6, .map (some g43)), (20, v31), (21, .int .i64 (x20.1.length : Int)), (22, .int .i64 s1.2)] ∧ SL w [] w_ [Mp (Value.int .i64) (Value.int .i64) g43 s1.1, Sl T_api_Instr v31 x20.1]) H ?_ ?_
  ·exact ⟨F1.sub ⟨rfl, rfl, rfl, rfl, rfl, trivial⟩, s47⟩
  ·intro s1 q2 w0 hI0 o1 H hr
   obtain ⟨F2, s2⟩ := hI0
   replace H : opt_items_b0 x20 s1 = some o1 := H
   unfold opt_items_b0 at H
   refine wp_seq <| wp_reg ?_
   refine st_pr F2 (PR.op (ex_lt rfl rfl) <| PR.nil) fun q4 F3 => ?_
   refine st_end <| then_n <| wp_seq ?_
   refine wp_if F3 rfl (fun hb0 => ?_) (fun hb0 => ?_)
   ·replace H := ite_t hb0 H
    refine wp_skip <| then_n <| wp_seq <| wp_block <| wp_seq <| wp_reg ?_
    obtain ⟨x0, hx0, H⟩ := bind_ok H
    obtain ⟨a1, hi0, he0⟩ := own_idx F_api_Instr s2 (.tail _ <| .head _) Fx.sl67 rfl hx0
    refine st_pr F3 (PR.op (ex_move rfl) <| PR.op (hi0 _ _ _ _ _ _ _ _ _ _ rfl rfl) <| PR.op (ex_ldagg Fx.agg90 rfl (SL.elcells F_api_Instr s2 (.tail _ <| .head _) he0 hx0) rfl) <| PR.nil) fun q5 F5 => ?_
    refine st_alloc F5 s2 Fx.zero90 rfl rfl fun g0 w1 q6 F6 s3 => ?_
    refine st_pr F6 (PR.op (ex_asg rfl) <| PR.nil) fun q7 F7 => ?_
    have s4 := s3
    refine st_storea F7 s4 rfl rfl Fx.sz90 (one_cons rfl (one_cons rfl (one_cons rfl (one_cons rfl one_nil)))) (Nat.le_of_ble_eq_true rfl) fun w2 q8 F8 s5 => ?_
    replace s5 : SL w [] w2 [Blk g0 90 [.int .i64 x0.At, .int .u8 (x0.Op.toNat : Int), .int .i64 x0.A, .int .i64 x0.B], Mp (Value.int .i64) (Value.int .i64) g43 s1.1, Sl T_api_Instr v31 x20.1] := s5
    refine st_end <| then_n <| wp_reg ?_
    refine st_pr F8 (PR.op (ex_move rfl) <| PR.op (ex_fab Fx.fa90_0 rfl rfl) <| PR.op (ex_ld Fx.nag3 rfl (s5.blk_cell (.head _) rfl)) <| PR.op (ex_move rfl) <| PR.nil) fun q9 F9 => ?_
    refine st_mapset (k := x0.At) (u := s1.2) F9 s5.f1 Try.underlying109 Fx.key3 rfl rfl rfl fun w3 q10 F10 s6 => ?_
    refine st_end ?_
    refine blk_n ?_
    refine then_n <| wp_reg ?_
    refine st_pr F10 (PR.op (ex_add rfl rfl) <| PR.op (ex_move rfl) <| PR.nil) fun q11 F11 => ?_
    refine st_end ?_
    obtain rfl := some_ok H
    refine then_n ?_
    exact ⟨_, rfl, F11.sub ⟨rfl, rfl, rfl, rfl, rfl, trivial⟩, s6.f1.drop⟩
   ·replace H := ite_f hb0 H
    refine wp_exit <| then_x <| then_x <| blk_hit ?_
    obtain rfl := some_ok H
    obtain rfl := hr _ rfl
    refine then_n ?_
    exact ⟨F3.sub ⟨rfl, rfl, trivial⟩, s2⟩
 ·intro q12 w4 hJ
  obtain ⟨F12, s7⟩ := hJ
  have H := R0
  clear R0 H0
  refine then_n <| wp_seq <| wp_reg ?_
  refine st_pr F12 (PR.op (ex_asg rfl) <| PR.nil) fun q13 F13 => ?_
  refine st_end <| then_n <| wp_seq <| wp_seq <| wp_reg ?_
  refine st_pr F13 (PR.op (ex_move rfl) <| PR.op (ex_len rfl Try.underlying67 (formL (s7.own_rd (.tail _ <| .head _)))) <| PR.op (ex_move rfl) <| PR.nil) fun q14 F14 => ?_
  refine st_end <| then_n ?_
  obtain ⟨o2, H1, R1⟩ := bind_ok H
  clear H
  refine wp_cutn (fun a w_ => ∃ v1 : Value, Fr a 54 [(9, v1)] ∧ SL w [] w_ [Sl T_opt_item v1 o2]) ?_ ?_
  ·have H := H1
   refine wp_block ?_
   refine wp_lp (opt_items_b1 x20 o0) (fun s8 a w_ => ∃ v2 : Value, Fr a 54 [(6, .map (some g43)), (9, v2), (32, v31), (33, .int .i64 (x20.1.length : Int)), (34, .int .i64 s8.2)] ∧ SL w [] w_ [Mp (Value.int .i64) (Value.int .i64) g43 o0, Sl T_api_Instr v31 x20.1, Sl T_opt_item v2 s8.1]) H ?_ ?_
   ·exact ⟨(.slice none 0 0), F14.sub ⟨rfl, rfl, rfl, rfl, rfl, trivial⟩, (SL.nilSl (T := T_opt_item) s7).f2.f2⟩
   ·intro s8 q15 w5 hI1 o3 H hr
    obtain ⟨v2, F15, s9⟩ := hI1
    replace H : opt_items_b1 x20 o0 s8 = some o3 := H
    unfold opt_items_b1 at H
    refine wp_seq <| wp_reg ?_
    refine st_pr F15 (PR.op (ex_lt rfl rfl) <| PR.nil) fun q16 F16 => ?_
    refine st_end <| then_n <| wp_seq ?_
    refine wp_if F16 rfl (fun hb1 => ?_) (fun hb1 => ?_)
    ·replace H := ite_t hb1 H
     refine wp_skip <| then_n <| wp_seq <| wp_block <| wp_seq <| wp_reg ?_
     obtain ⟨x1, hx1, H⟩ := bind_ok H
     obtain ⟨a2, hi1, he1⟩ := own_idx F_api_Instr s9 (.tail _ <| .head _) Fx.sl67 rfl hx1
     refine st_pr F16 (PR.op (hi1 _ _ _ _ _ _ _ _ _ _ rfl rfl) <| PR.op (ex_ldagg Fx.agg90 rfl (SL.elcells F_api_Instr s9 (.tail _ <| .head _) he1 hx1) rfl) <| PR.nil) fun q17 F17 => ?_
     refine st_alloc F17 s9 Fx.zero90 rfl rfl fun g1 w6 q18 F18 s10 => ?_
     have s11 := s10
     refine st_storea F18 s11 rfl rfl Fx.sz90 (one_cons rfl (one_cons rfl (one_cons rfl (one_cons rfl one_nil)))) (Nat.le_of_ble_eq_true rfl) fun w7 q19 F19 s12 => ?_
     replace s12 : SL w [] w7 [Blk g1 90 [.int .i64 x1.At, .int .u8 (x1.Op.toNat : Int), .int .i64 x1.A, .int .i64 x1.B], Mp (Value.int .i64) (Value.int .i64) g43 o0, Sl T_api_Instr v31 x20.1, Sl T_opt_item v2 s8.1] := s12
     refine st_end <| then_n <| wp_seq <| wp_reg ?_
     refine st_pr F19 (PR.op (ex_ldagg Fx.agg90 rfl (s12.blk_cells (.head _) (o := 0) (ds := [.int .i64 x1.At, .int .u8 (x1.Op.toNat : Int), .int .i64 x1.A, .int .i64 x1.B]) (fun j u hu => by rw [Nat.zero_add]; exact hu)) rfl) <| PR.op (ex_build (vs := [.agg ⟨[.int .i64 x1.At, .int .u8 (x1.Op.toNat : Int), .int .i64 x1.A, .int .i64 x1.B]⟩]) Fx.zero121 Fx.pl121 rfl (cs := [.int .i64 x1.At, .int .u8 (x1.Op.toNat : Int), .int .i64 x1.A, .int .i64 x1.B, .int .i64 0, .bool false]) (rfl)) <| PR.nil) fun q20 F20 => ?_
     refine st_alloc F20 s12 Fx.zero121 rfl rfl fun g2 w8 q21 F21 s13 => ?_
     have s14 := s13
     refine st_storea F21 s14 rfl rfl Fx.sz121 (one_cons rfl (one_cons rfl (one_cons rfl (one_cons rfl (one_cons rfl (one_cons rfl one_nil)))))) (Nat.le_of_ble_eq_true rfl) fun w9 q23 F22 s15 => ?_
     replace s15 : SL w [] w9 [Blk g2 121 [.int .i64 x1.At, .int .u8 (x1.Op.toNat : Int), .int .i64 x1.A, .int .i64 x1.B, .int .i64 0, .bool false], Blk g1 90 [.int .i64 x1.At, .int .u8 (x1.Op.toNat : Int), .int .i64 x1.A, .int .i64 x1.B], Mp (Value.int .i64) (Value.int .i64) g43 o0, Sl T_api_Instr v31 x20.1, Sl T_opt_item v2 s8.1] := s15
     refine st_end <| then_n <| wp_seq <| wp_seq <| wp_reg ?_
     obtain ⟨x2, hx2, H⟩ := bind_ok H
     refine st_pr F22 (PR.op (ex_fab Fx.fa90_1 rfl rfl) <| PR.op (ex_ld Fx.nag5 rfl (s15.blk_cell (.tail _ <| .head _) rfl)) <| PR.nil) fun q24 F24 => ?_
     refine st_call (args := [.tmp 41]) F24 Fx.fn55 rfl (code_Jumps_c (a0 := x1.Op)   hx2) rfl fun v3 w10 q25 hS0 F25 => ?_
     obtain ⟨rfl, hq0⟩ := hS0
     have s16 := s15.add hq0
     refine st_end <| then_n ?_
     refine wp_if F25 rfl (fun hb2 => ?_) (fun hb2 => ?_)
     ·replace H := ite_t hb2 H
      refine wp_reg ?_
      refine st_pr F25 (PR.op (ex_move rfl) <| PR.op (ex_fab Fx.fa90_2 rfl rfl) <| PR.op (ex_ld Fx.nag3 rfl (s16.blk_cell (.tail _ <| .head _) rfl)) <| PR.op (ex_lookup (k := x1.A) (z0 := (0 : Int)) s16 (.tail _ <| .tail _ <| .head _) Try.underlying109 Fx.key3 Fx.mz3 rfl rfl) <| PR.op (ex_fab Fx.fa121_1 rfl rfl) <| PR.nil) fun q27 F26 => ?_
      have s17 := s16
      refine st_store F26 s17 rfl rfl Fx.sz3 rfl rfl rfl fun w11 q28 F28 s18 => ?_
      replace s18 : SL w [] w11 [Blk g2 121 [.int .i64 x1.At, .int .u8 (x1.Op.toNat : Int), .int .i64 x1.A, .int .i64 x1.B, .int .i64 ((mget o0 x1.A).getD (0 : Int)), .bool false], Blk g1 90 [.int .i64 x1.At, .int .u8 (x1.Op.toNat : Int), .int .i64 x1.A, .int .i64 x1.B], Mp (Value.int .i64) (Value.int .i64) g43 o0, Sl T_api_Instr v31 x20.1, Sl T_opt_item v2 s8.1] := s18
      refine st_end <| then_n <| wp_reg ?_
      refine st_pr F28 (PR.op (ex_move rfl) <| PR.op (ex_ldagg Fx.agg121 rfl (s18.blk_cells (.head _) (o := 0) (ds := [.int .i64 x1.At, .int .u8 (x1.Op.toNat : Int), .int .i64 x1.A, .int .i64 x1.B, .int .i64 ((mget o0 x1.A).getD (0 : Int)), .bool false]) (fun j u hu => by rw [Nat.zero_add]; exact hu)) rfl) <| PR.nil) fun q29 F29 => ?_
      refine st_bslice (parts := [(0, .tmp 49)]) F_opt_item ([(⟨(⟨x1.At, x1.Op, x1.A, x1.B⟩ : S_api_Instr), ((mget o0 x1.A).getD (0 : Int)), false⟩ : S_opt_item)] : List S_opt_item) F29 s18 Fx.sl94 rfl (by decide) rfl rfl rfl (by simp [Value.cells]) rfl rfl rfl fun v4 w12 q30 F30 s19 => ?_
      obtain ⟨x3, hx3, H⟩ := bind_ok H
      have s20 := s19.f5
      obtain ⟨_, hr_⟩ := (s20.own_rd (.tail _ <| .head _))
      refine st_append_rd F_opt_item F30 s20 Fx.sl94 rfl rfl rfl rfl hr_ rfl rfl hx3 rfl fun v5 w13 q31 F31 s21 => ?_
      have s10501' := s21.f1.drop
      refine st_pr F31 (PR.op (ex_asg rfl) <| PR.nil) fun q32 F32 => ?_
      refine st_end ?_
      refine blk_n ?_
      refine then_n <| wp_reg ?_
      refine st_pr F32 (PR.op (ex_add rfl rfl) <| PR.op (ex_move rfl) <| PR.nil) fun q34 F33 => ?_
      refine st_end ?_
      obtain rfl := some_ok H
      refine then_n ?_
      exact ⟨_, rfl, v5, F33.sub ⟨rfl, rfl, rfl, rfl, rfl, trivial⟩, s10501'.f1.drop.f1.drop.f2.f2⟩
     ·replace H := ite_f hb2 H
      refine wp_skip <| then_n <| wp_reg ?_
      refine st_pr F25 (PR.op (ex_move rfl) <| PR.op (ex_ldagg Fx.agg121 rfl (s16.blk_cells (.head _) (o := 0) (ds := [.int .i64 x1.At, .int .u8 (x1.Op.toNat : Int), .int .i64 x1.A, .int .i64 x1.B, .int .i64 0, .bool false]) (fun j u hu => by rw [Nat.zero_add]; exact hu)) rfl) <| PR.nil) fun q35 F35 => ?_
      refine st_bslice (parts := [(0, .tmp 49)]) F_opt_item ([(⟨(⟨x1.At, x1.Op, x1.A, x1.B⟩ : S_api_Instr), 0, false⟩ : S_opt_item)] : List S_opt_item) F35 s16 Fx.sl94 rfl (by decide) rfl rfl rfl (by simp [Value.cells]) rfl rfl rfl fun v6 w14 q36 F36 s22 => ?_
      obtain ⟨x4, hx4, H⟩ := bind_ok H
      have s23 := s22.f5
      obtain ⟨_, hr_⟩ := (s23.own_rd (.tail _ <| .head _))
      refine st_append_rd F_opt_item F36 s23 Fx.sl94 rfl rfl rfl rfl hr_ rfl rfl hx4 rfl fun v7 w15 q37 F37 s24 => ?_
      have s10521' := s24.f1.drop
      refine st_pr F37 (PR.op (ex_asg rfl) <| PR.nil) fun q38 F38 => ?_
      refine st_end ?_
      refine blk_n ?_
      refine then_n <| wp_reg ?_
      refine st_pr F38 (PR.op (ex_add rfl rfl) <| PR.op (ex_move rfl) <| PR.nil) fun q39 F39 => ?_
      refine st_end ?_
      obtain rfl := some_ok H
      refine then_n ?_
      exact ⟨_, rfl, v7, F39.sub ⟨rfl, rfl, rfl, rfl, rfl, trivial⟩, s10521'.f1.drop.f1.drop.f2.f2⟩
    ·replace H := ite_f hb1 H
     refine wp_exit <| then_x <| then_x <| blk_hit ?_
     obtain rfl := some_ok H
     obtain rfl := hr _ rfl
     refine then_n ?_
     exact ⟨v2, F16.sub ⟨rfl, trivial⟩, s9.drop.drop⟩
  ·intro q40 w16 hJ
   obtain ⟨v1, F40, s25⟩ := hJ
   have H := R1
   clear R1 H1
   refine then_n <| wp_seq <| wp_reg ?_
   refine st_pr F40 (PR.op (ex_move rfl) <| PR.op (ex_asg rfl) <| PR.nil) fun q41 F41 => ?_
   refine st_end <| then_n ?_
   obtain rfl := some_ok H
   refine wp_ret ?_
   refine ret_gen (rs := [.tmp 2]) (vs := [v1]) F41 (by rfl) ⟨_, _, rfl, RV.tmp rfl, rfl⟩ ⟨_, rfl, ⟨v1, rfl, s25⟩⟩
-- The walk of proviso/opt.rules.
theorem opt_rules_c {w : World} {r : Unit}  (H : opt_rules = some r) :
  Calls Try.prog 44 #[] w (Ret fun u_ w_ => ∃ k0 : Nat, u_ = .slice (some ⟨k0, 0, none⟩) 5 5 ∧ SL w [] w_ [Blk k0 99 [clo 63 [], clo 64 [], clo 65 [], clo 66 [], clo 67 []]]) := by
 have s0 : SL w [] w [] := SL.init0 w
 refine call_enter Try.func44 rfl Try.ntmps44 (Nat.le_of_ble_eq_true rfl) (args := []) fun q0 F0 => ?_
 unfold opt_rules at H
 refine wp_seq <| wp_reg ?_
 refine st_pr F0 (PR.op (ex_asg rfl) <| PR.nil) fun q3 F4 => ?_
 refine st_end <| then_n <| wp_seq <| wp_reg ?_
 refine st_bsliceb (parts := [(0, .func 63), (1, .func 64), (2, .func 65), (3, .func 66), (4, .func 67)]) (vs := [clo 63 [], clo 64 [], clo 65 [], clo 66 [], clo 67 []]) F4 s0 Fx.sl96 rfl (by decide) rfl rfl rfl (one_cells_all (cells1_cons rfl (cells1_cons rfl (cells1_cons rfl (cells1_cons rfl (cells1_cons rfl cells1_nil)))))) rfl fun g13 w14 q15 F16 s17 => ?_
 refine st_pr F16 (PR.op (ex_asg rfl) <| PR.nil) fun q19 F20 => ?_
 refine st_end <| then_n ?_
 obtain rfl := some_ok H
 refine wp_ret ?_
 refine ret_gen (rs := [.tmp 0]) (vs := [.slice (some ⟨g13, 0, none⟩) 5 5]) F20 (by rfl) ⟨_, _, rfl, RV.tmp rfl, rfl⟩ ⟨_, rfl, ⟨g13, rfl, s17⟩⟩
-- The walk of proviso/code.fits.
theorem code_fits_c {w : World} {a0 : UInt8} {a1 : Int} {a2 : Int} {r : Bool}  (H : code_fits a0 a1 a2 = some r) :
  Calls Try.prog 100 #[.int .u8 (a0.toNat : Int), .int .i64 a1, .int .i64 a2] w (Ret fun u_ w_ => u_ = .bool r ∧ SL w [] w_ []) := by
 have s0 : SL w [] w [] := SL.init0 w
 refine call_enter Try.func100 rfl Try.ntmps100 (Nat.le_of_ble_eq_true rfl) (args := [.int .u8 (a0.toNat : Int), .int .i64 a1, .int .i64 a2]) fun q0 F0 => ?_
 unfold code_fits at H
 refine wp_seq <| wp_reg ?_
 refine st_pr F0 (PR.op (ex_asg rfl) <| PR.nil) fun q3 F4 => ?_
 refine st_end <| then_n <| wp_seq <| wp_seq <| wp_reg ?_
 refine st_pr F4 (PR.op (ex_move rfl) <| PR.nil) fun q1 F1 => ?_
 refine st_end <| then_n <| wp_block <| wp_seq <| wp_reg ?_
 refine st_pr F1 (PR.op (ex_eq rfl rfl) <| PR.op (ex_asg rfl) <| PR.nil) fun q2 F2 => ?_
 refine st_end <| then_n ?_
 refine wp_if F2 rfl (fun hb0 => ?_) (fun hb0 => ?_)
 ·replace H := ite_t hb0 H
  refine wp_seq <| wp_reg ?_
  refine st_pr F2 (PR.op (ex_move rfl) <| PR.op (ex_eq rfl rfl) <| PR.op (ex_asg rfl) <| PR.nil) fun q4 F3 => ?_
  refine st_end <| then_n ?_
  obtain rfl := some_ok H
  refine wp_ret ?_
  refine blk_r <| then_r ?_
  refine ret_gen (rs := [.tmp 6]) (vs := [.bool (a1 == 0)]) F3 (by rfl) ⟨_, _, rfl, RV.tmp rfl, rfl⟩ ⟨_, rfl, ⟨rfl, s0⟩⟩
 ·replace H := ite_f hb0 H
  refine wp_seq <| wp_reg ?_
  refine st_pr F2 (PR.op (ex_eq rfl rfl) <| PR.op (ex_asg rfl) <| PR.nil) fun q5 F5 => ?_
  refine st_end <| then_n ?_
  refine wp_if F5 rfl (fun hb1 => ?_) (fun hb1 => ?_)
  ·replace H := ite_t hb1 H
   refine wp_seq <| wp_reg ?_
   refine st_pr F5 (PR.op (ex_move rfl) <| PR.op (ex_ge rfl rfl) <| PR.op (ex_move rfl) <| PR.nil) fun q6 F6 => ?_
   refine bool_split (decide (a1 ≥ 0)) (fun hb2 => ?_) (fun hb2 => ?_)
   ·replace H := ite_t hb2 H
    refine st_gop F6 rfl rfl (look_b rfl hb2) (ex_move rfl) rfl rfl fun q7 F7 => ?_
    refine st_gop F7 rfl rfl (look_b rfl hb2) (ex_le rfl rfl) rfl rfl fun q8 F8 => ?_
    refine st_pr F8 (PR.op (ex_pick_t (ev_b rfl hb2) rfl) <| PR.op (ex_move rfl) <| PR.nil) fun q9 F9 => ?_
    refine bool_split (decide (a1 ≤ 255)) (fun hb3 => ?_) (fun hb3 => ?_)
    ·replace H := ite_t hb3 H
     refine st_gop F9 rfl rfl (look_b rfl hb3) (ex_move rfl) rfl rfl fun q10 F10 => ?_
     refine st_gop F10 rfl rfl (look_b rfl hb3) (ex_ne rfl rfl) rfl rfl fun q11 F11 => ?_
     refine st_gop F11 rfl rfl (look_b rfl hb3) (ex_move rfl) rfl rfl fun q12 F12 => ?_
     refine bool_split ((a0.toNat : Int) != 2) (fun hb4 => ?_) (fun hb4 => ?_)
     ·replace H := ite_t hb4 H
      refine st_gskip F12 rfl rfl (look_b rfl hb4) Bool.noConfusion rfl rfl fun q13 F13 => ?_
      refine st_gskip F13 rfl rfl (look_b rfl hb4) Bool.noConfusion rfl rfl fun q14 F14 => ?_
      refine st_gop F14 rfl rfl (look_b rfl hb3) (ex_pick_t (ev_b rfl hb4) rfl) rfl rfl fun q15 F15 => ?_
      refine st_pr F15 (PR.op (ex_pick_t (ev_b rfl hb3) rfl) <| PR.op (ex_asg rfl) <| PR.nil) fun q16 F16 => ?_
      refine st_end <| then_n ?_
      obtain rfl := some_ok H
      refine wp_ret ?_
      refine blk_r <| then_r ?_
      refine ret_gen (rs := [.tmp 6]) (vs := [.bool true]) F16 (by rfl) ⟨_, _, rfl, RV.tmp rfl, rfl⟩ ⟨_, rfl, ⟨rfl, s0⟩⟩
     ·replace H := ite_f hb4 H
      refine st_gop F12 rfl rfl (look_b rfl hb4) (ex_move rfl) rfl rfl fun q17 F17 => ?_
      refine st_gop F17 rfl rfl (look_b rfl hb4) (ex_le rfl rfl) rfl rfl fun q18 F18 => ?_
      refine st_gop F18 rfl rfl (look_b rfl hb3) (ex_pick_f (ev_b rfl hb4) rfl) rfl rfl fun q19 F19 => ?_
      refine st_pr F19 (PR.op (ex_pick_t (ev_b rfl hb3) rfl) <| PR.op (ex_asg rfl) <| PR.nil) fun q20 F20 => ?_
      refine st_end <| then_n ?_
      obtain rfl := some_ok H
      refine wp_ret ?_
      refine blk_r <| then_r ?_
      refine ret_gen (rs := [.tmp 6]) (vs := [.bool (decide (a1 ≤ 1))]) F20 (by rfl) ⟨_, _, rfl, RV.tmp rfl, rfl⟩ ⟨_, rfl, ⟨rfl, s0⟩⟩
    ·replace H := ite_f hb3 H
     refine st_gskip F9 rfl rfl (look_b rfl hb3) Bool.noConfusion rfl rfl fun q21 F21 => ?_
     refine st_gskip F21 rfl rfl (look_b rfl hb3) Bool.noConfusion rfl rfl fun q22 F22 => ?_
     refine st_gskip F22 rfl rfl (look_b rfl hb3) Bool.noConfusion rfl rfl fun q23 F23 => ?_
     refine st_gskip' F23 rfl rfl rfl rfl rfl fun q24 F24 => ?_
     refine st_gskip' F24 rfl rfl rfl rfl rfl fun q25 F25 => ?_
     refine st_gskip F25 rfl rfl (look_b rfl hb3) Bool.noConfusion rfl rfl fun q26 F26 => ?_
     refine st_pr F26 (PR.op (ex_pick_f (ev_b rfl hb3) rfl) <| PR.op (ex_asg rfl) <| PR.nil) fun q27 F27 => ?_
     refine st_end <| then_n ?_
     obtain rfl := some_ok H
     refine wp_ret ?_
     refine blk_r <| then_r ?_
     refine ret_gen (rs := [.tmp 6]) (vs := [.bool false]) F27 (by rfl) ⟨_, _, rfl, RV.tmp rfl, rfl⟩ ⟨_, rfl, ⟨rfl, s0⟩⟩
   ·replace H := ite_f hb2 H
    refine st_gskip F6 rfl rfl (look_b rfl hb2) Bool.noConfusion rfl rfl fun q28 F28 => ?_
    refine st_gskip F28 rfl rfl (look_b rfl hb2) Bool.noConfusion rfl rfl fun q29 F29 => ?_
    refine st_pr F29 (PR.op (ex_pick_f (ev_b rfl hb2) rfl) <| PR.op (ex_move rfl) <| PR.nil) fun q30 F30 => ?_
    refine st_gskip F30 rfl rfl rfl Bool.noConfusion rfl rfl fun q31 F31 => ?_
    refine st_gskip F31 rfl rfl rfl Bool.noConfusion rfl rfl fun q32 F32 => ?_
    refine st_gskip F32 rfl rfl rfl Bool.noConfusion rfl rfl fun q33 F33 => ?_
    refine st_gskip' F33 rfl rfl rfl rfl rfl fun q34 F34 => ?_
    refine st_gskip' F34 rfl rfl rfl rfl rfl fun q35 F35 => ?_
    refine st_gskip F35 rfl rfl rfl Bool.noConfusion rfl rfl fun q36 F36 => ?_
    refine st_pr F36 (PR.op (ex_pick_f rfl rfl) <| PR.op (ex_asg rfl) <| PR.nil) fun q37 F37 => ?_
    refine st_end <| then_n ?_
    obtain rfl := some_ok H
    refine wp_ret ?_
    refine blk_r <| then_r ?_
    refine ret_gen (rs := [.tmp 6]) (vs := [.bool false]) F37 (by rfl) ⟨_, _, rfl, RV.tmp rfl, rfl⟩ ⟨_, rfl, ⟨rfl, s0⟩⟩
  ·replace H := ite_f hb1 H
   refine wp_seq <| wp_reg ?_
   refine st_pr F5 (PR.op (ex_eq rfl rfl) <| PR.op (ex_asg rfl) <| PR.nil) fun q38 F38 => ?_
   refine st_end <| then_n ?_
   refine wp_if F38 rfl (fun hb5 => ?_) (fun hb5 => ?_)
   ·replace H := ite_t hb5 H
    refine wp_seq <| wp_reg ?_
    refine st_pr F38 (PR.op (ex_move rfl) <| PR.op (ex_ge rfl rfl) <| PR.op (ex_move rfl) <| PR.nil) fun q39 F39 => ?_
    refine bool_split (decide (a1 ≥ 0)) (fun hb6 => ?_) (fun hb6 => ?_)
    ·replace H := ite_t hb6 H
     refine st_gop F39 rfl rfl (look_b rfl hb6) (ex_move rfl) rfl rfl fun q40 F40 => ?_
     refine st_gop F40 rfl rfl (look_b rfl hb6) (ex_le rfl rfl) rfl rfl fun q41 F41 => ?_
     refine st_pr F41 (PR.op (ex_pick_t (ev_b rfl hb6) rfl) <| PR.op (ex_asg rfl) <| PR.nil) fun q42 F42 => ?_
     refine st_end <| then_n ?_
     obtain rfl := some_ok H
     refine wp_ret ?_
     refine blk_r <| then_r ?_
     refine ret_gen (rs := [.tmp 6]) (vs := [.bool (decide (a1 ≤ 65535))]) F42 (by rfl) ⟨_, _, rfl, RV.tmp rfl, rfl⟩ ⟨_, rfl, ⟨rfl, s0⟩⟩
    ·replace H := ite_f hb6 H
     refine st_gskip F39 rfl rfl (look_b rfl hb6) Bool.noConfusion rfl rfl fun q43 F43 => ?_
     refine st_gskip F43 rfl rfl (look_b rfl hb6) Bool.noConfusion rfl rfl fun q44 F44 => ?_
     refine st_pr F44 (PR.op (ex_pick_f (ev_b rfl hb6) rfl) <| PR.op (ex_asg rfl) <| PR.nil) fun q45 F45 => ?_
     refine st_end <| then_n ?_
     obtain rfl := some_ok H
     refine wp_ret ?_
     refine blk_r <| then_r ?_
     refine ret_gen (rs := [.tmp 6]) (vs := [.bool false]) F45 (by rfl) ⟨_, _, rfl, RV.tmp rfl, rfl⟩ ⟨_, rfl, ⟨rfl, s0⟩⟩
   ·replace H := ite_f hb5 H
    refine wp_skip ?_
    refine blk_n ?_
    refine then_n <| wp_seq <| wp_reg ?_
    refine st_pr F38 (PR.op (ex_move rfl) <| PR.op (ex_ge rfl rfl) <| PR.op (ex_move rfl) <| PR.nil) fun q46 F46 => ?_
    refine bool_split (decide (a1 ≥ (-2147483648))) (fun hb7 => ?_) (fun hb7 => ?_)
    ·replace H := ite_t hb7 H
     refine st_gop F46 rfl rfl (look_b rfl hb7) (ex_move rfl) rfl rfl fun q47 F47 => ?_
     refine st_gop F47 rfl rfl (look_b rfl hb7) (ex_le rfl rfl) rfl rfl fun q48 F48 => ?_
     refine st_pr F48 (PR.op (ex_pick_t (ev_b rfl hb7) rfl) <| PR.op (ex_asg rfl) <| PR.nil) fun q49 F49 => ?_
     refine st_end <| then_n ?_
     obtain rfl := some_ok H
     refine wp_ret ?_
     refine ret_gen (rs := [.tmp 6]) (vs := [.bool (decide (a1 ≤ 2147483647))]) F49 (by rfl) ⟨_, _, rfl, RV.tmp rfl, rfl⟩ ⟨_, rfl, ⟨rfl, s0⟩⟩
    ·replace H := ite_f hb7 H
     refine st_gskip F46 rfl rfl (look_b rfl hb7) Bool.noConfusion rfl rfl fun q50 F50 => ?_
     refine st_gskip F50 rfl rfl (look_b rfl hb7) Bool.noConfusion rfl rfl fun q51 F51 => ?_
     refine st_pr F51 (PR.op (ex_pick_f (ev_b rfl hb7) rfl) <| PR.op (ex_asg rfl) <| PR.nil) fun q52 F52 => ?_
     refine st_end <| then_n ?_
     obtain rfl := some_ok H
     refine wp_ret ?_
     refine ret_gen (rs := [.tmp 6]) (vs := [.bool false]) F52 (by rfl) ⟨_, _, rfl, RV.tmp rfl, rfl⟩ ⟨_, rfl, ⟨rfl, s0⟩⟩
-- The walk of proviso/code.put.
theorem code_put_c {w : World} {FF : List Nat} {v0 : Value} {a0 : List UInt8} {a1 : Int} {a2 : Int} {r : (List UInt8)} (hst : Star [Sl Ty.u8 v0 a0] w FF)  (H : code_put a0 a1 a2 = some r) :
  Calls Try.prog 101 #[v0, .int .i64 a1, .int .i64 a2] w (Ret fun u_ w_ => ∃ u0 : Value, u_ = u0 ∧ SL w FF w_ [Sl Ty.u8 u0 r]) := by
 have s0 : SL w FF w [Sl Ty.u8 v0 a0] := SL.init w FF hst
 refine call_enter Try.func101 rfl Try.ntmps101 (Nat.le_of_ble_eq_true rfl) (args := [v0, .int .i64 a1, .int .i64 a2]) fun q0 F0 => ?_
 unfold code_put at H
 refine wp_seq <| wp_reg ?_
 refine st_pr F0 (PR.op (ex_asg rfl) <| PR.nil) fun q3 F4 => ?_
 refine st_end <| then_n <| wp_seq <| wp_seq <| wp_reg ?_
 refine st_pr F4 (PR.op (ex_move rfl) <| PR.op (ex_sub rfl rfl) <| PR.op (ex_asg rfl) <| PR.nil) fun q1 F1 => ?_
 refine st_end <| then_n ?_
 obtain ⟨o0, H0, R0⟩ := bind_ok H
 clear H
 refine wp_cutn (fun a w_ => ∃ v1 : Value, Fr a 23 [(0, v1)] ∧ SL w FF w_ [Sl Ty.u8 v1 o0]) ?_ ?_
 ·have H := H0
  refine wp_block ?_
  refine wp_lp (code_put_b0 a1) (fun s1 a w_ => ∃ v2 : Value, Fr a 23 [(0, v2), (1, .int .i64 a1), (7, .int .i64 s1.2)] ∧ SL w FF w_ [Sl Ty.u8 v2 s1.1]) H ?_ ?_
  ·exact ⟨v0, F1.sub ⟨rfl, rfl, rfl, trivial⟩, s0⟩
  ·intro s1 q2 w0 hI0 o1 H hr
   obtain ⟨v2, F2, s2⟩ := hI0
   replace H : code_put_b0 a1 s1 = some o1 := H
   unfold code_put_b0 at H
   refine wp_seq <| wp_seq <| wp_reg ?_
   refine st_pr F2 (PR.op (ex_move rfl) <| PR.op (ex_ge rfl rfl) <| PR.nil) fun q4 F3 => ?_
   refine st_end <| then_n ?_
   refine wp_if F3 rfl (fun hb0 => ?_) (fun hb0 => ?_)
   ·replace H := ite_t hb0 H
    refine wp_skip <| then_n <| wp_seq <| wp_block <| wp_reg ?_
    obtain ⟨hz0, H⟩ := none_else H
    refine st_pr F3 (PR.op (ex_move rfl) <| PR.op (ex_move rfl) <| PR.op (ex_move rfl) <| PR.op (ex_mul rfl rfl) <| PR.op (ex_shr rfl rfl hz0) <| PR.op (ex_cv8 rfl Try.underlying3 Try.underlying5) <| PR.nil) fun q5 F5 => ?_
    refine st_bslice (parts := [(0, .tmp 19)]) Flat.u8 ([toU8 (sShr .i64 a1 (wr (8 * s1.2)))] : List UInt8) F5 s2 Fx.sl22 rfl (by decide) rfl rfl rfl (by simp [Value.cells]) rfl rfl rfl fun v3 w1 q6 F6 s3 => ?_
    obtain ⟨x0, hx0, H⟩ := bind_ok H
    have s4 := s3.f1
    obtain ⟨_, hr_⟩ := (s4.own_rd (.tail _ <| .head _))
    refine st_append_rd Flat.u8 F6 s4 Fx.sl22 rfl rfl rfl rfl hr_ rfl rfl hx0 rfl fun v4 w2 q7 F7 s5 => ?_
    have s1323' := s5.f1.drop
    refine st_pr F7 (PR.op (ex_asg rfl) <| PR.nil) fun q8 F8 => ?_
    refine st_end ?_
    refine blk_n ?_
    refine then_n <| wp_reg ?_
    refine st_pr F8 (PR.op (ex_move rfl) <| PR.op (ex_sub rfl rfl) <| PR.op (ex_asg rfl) <| PR.nil) fun q9 F9 => ?_
    refine st_end ?_
    obtain rfl := some_ok H
    refine then_n ?_
    exact ⟨_, rfl, v4, F9.sub ⟨rfl, rfl, rfl, trivial⟩, s1323'⟩
   ·replace H := ite_f hb0 H
    refine wp_exit <| then_x <| then_x <| blk_hit ?_
    obtain rfl := some_ok H
    obtain rfl := hr _ rfl
    refine then_n ?_
    exact ⟨v2, F3.sub ⟨rfl, trivial⟩, s2⟩
 ·intro q10 w3 hJ
  obtain ⟨v1, F10, s6⟩ := hJ
  have H := R0
  clear R0 H0
  refine then_n <| wp_seq <| wp_reg ?_
  refine st_pr F10 (PR.op (ex_move rfl) <| PR.op (ex_asg rfl) <| PR.nil) fun q11 F11 => ?_
  refine st_end <| then_n ?_
  obtain rfl := some_ok H
  refine wp_ret ?_
  refine ret_gen (rs := [.tmp 6]) (vs := [v1]) F11 (by rfl) ⟨_, _, rfl, RV.tmp rfl, rfl⟩ ⟨_, rfl, ⟨v1, rfl, s6⟩⟩
-- The walk of proviso/code.Encode.
theorem code_Encode_c {w : World} {a0 : S_api_Instr} {r : (List UInt8) × Int}  (H : code_Encode a0 = some r) :
  Calls Try.prog 68 #[.agg ⟨[.int .i64 a0.At, .int .u8 (a0.Op.toNat : Int), .int .i64 a0.A, .int .i64 a0.B]⟩] w (Ret fun u_ w_ => ∃ u0 : Value, u_ = .tuple ⟨[u0, .int .i64 r.2]⟩ ∧ SL w [] w_ [Sl Ty.u8 u0 r.1]) := by
 have s0 : SL w [] w [] := SL.init0 w
 refine call_enter Try.func68 rfl Try.ntmps68 (Nat.le_of_ble_eq_true rfl) (args := [.agg ⟨[.int .i64 a0.At, .int .u8 (a0.Op.toNat : Int), .int .i64 a0.A, .int .i64 a0.B]⟩]) fun q0 F0 => ?_
 unfold code_Encode at H
 refine wp_seq <| wp_reg ?_
 refine st_box F0 s0 rfl rfl rfl fun g9 w10 q11 F12 s13 => ?_
 refine st_pr F12 (PR.op (ex_asg rfl) <| PR.op (ex_asg rfl) <| PR.nil) fun q15 F16 => ?_
 refine st_end <| then_n <| wp_seq <| wp_seq <| wp_reg ?_
 obtain ⟨x61, hx62, H⟩ := bind_ok H
 refine st_pr F16 (PR.op (ex_fab Fx.fa90_1 rfl rfl) <| PR.op (ex_ld Fx.nag5 rfl (s13.blk_cell (.head _) rfl)) <| PR.nil) fun q63 F64 => ?_
 refine st_call (args := [.tmp 7]) F64 Fx.fn53 rfl (code_Size_c (a0 := a0.Op)   hx62) rfl fun v65 w66 q67 hS69 F68 => ?_
 obtain ⟨rfl, hq71⟩ := hS69
 have s70 := s13.add hq71
 refine st_pr F68 (PR.op (ex_eq rfl rfl) <| PR.nil) fun q72 F73 => ?_
 refine st_end <| then_n ?_
 refine wp_if F73 rfl (fun hb74 => ?_) (fun hb74 => ?_)
 ·replace H := ite_t hb74 H
  refine wp_seq <| wp_reg ?_
  refine st_pr F73 (PR.op (ex_asg rfl) <| PR.op (ex_asg rfl) <| PR.nil) fun q77 F78 => ?_
  refine st_end <| then_n ?_
  obtain rfl := some_ok H
  refine wp_ret ?_
  refine then_r ?_
  refine ret_gen (rs := [.tmp 2, .tmp 3]) (vs := [.slice none 0 0, .int .i64 40]) F78 (by rfl) ⟨_, _, rfl, RV.tmp rfl, _, _, rfl, RV.tmp rfl, rfl⟩ ⟨_, rfl, ⟨(.slice none 0 0), rfl, (SL.nilSl (T := Ty.u8) s70).f1.drop⟩⟩
 ·replace H := ite_f hb74 H
  refine wp_skip <| then_n <| wp_seq <| wp_reg ?_
  obtain ⟨x92, hx93, H⟩ := bind_ok H
  refine st_pr F73 (PR.op (ex_fab Fx.fa90_1 rfl rfl) <| PR.op (ex_ld Fx.nag5 rfl (s70.blk_cell (.head _) rfl)) <| PR.nil) fun q94 F95 => ?_
  refine st_call (args := [.tmp 12]) F95 Fx.fn72 rfl (code_widths_c (a0 := a0.Op)   hx93) rfl fun v96 w97 q98 hS0 F99 => ?_
  obtain ⟨rfl, hq0⟩ := hS0
  have s1 := s70.add hq0
  refine st_pr F99 (PR.op (ex_move rfl) <| PR.op (ex_extract (v := .int .i64 x92.1) rfl rfl) <| PR.op (ex_extract (v := .int .i64 x92.2) rfl rfl) <| PR.op (ex_asg rfl) <| PR.op (ex_asg rfl) <| PR.nil) fun q1 F1 => ?_
  refine st_end <| then_n <| wp_seq <| wp_seq <| wp_reg ?_
  obtain ⟨x0, hx0, H⟩ := bind_ok H
  refine st_pr F1 (PR.op (ex_fab Fx.fa90_1 rfl rfl) <| PR.op (ex_ld Fx.nag5 rfl (s1.blk_cell (.head _) rfl)) <| PR.op (ex_fab Fx.fa90_2 rfl rfl) <| PR.op (ex_ld Fx.nag3 rfl (s1.blk_cell (.head _) rfl)) <| PR.op (ex_move rfl) <| PR.nil) fun q2 F2 => ?_
  refine st_call (args := [.tmp 17, .tmp 19, .tmp 20]) F2 Fx.fn100 rfl (code_fits_c (a0 := a0.Op) (a1 := a0.A) (a2 := x92.1)   hx0) rfl fun v0 w0 q3 hS1 F3 => ?_
  obtain ⟨rfl, hq1⟩ := hS1
  have s2 := s1.add hq1
  refine st_pr F3 (PR.op (ex_not rfl) <| PR.op (ex_move rfl) <| PR.nil) fun q4 F4 => ?_
  refine bool_split (!x0) (fun hb0 => ?_) (fun hb0 => ?_)
  ·replace H := ite_t hb0 H
   refine st_gskip F4 rfl rfl (look_b rfl hb0) Bool.noConfusion rfl rfl fun q5 F5 => ?_
   refine st_gskip F5 rfl rfl (look_b rfl hb0) Bool.noConfusion rfl rfl fun q6 F6 => ?_
   refine st_gskip F6 rfl rfl (look_b rfl hb0) Bool.noConfusion rfl rfl fun q7 F7 => ?_
   refine st_gskip F7 rfl rfl (look_b rfl hb0) Bool.noConfusion rfl rfl fun q8 F8 => ?_
   refine st_gskip F8 rfl rfl (look_b rfl hb0) Bool.noConfusion rfl rfl fun q9 F9 => ?_
   refine st_gskip F9 rfl rfl (look_b rfl hb0) Bool.noConfusion rfl rfl fun q10 F10 => ?_
   refine st_gskip F10 rfl rfl (look_b rfl hb0) Bool.noConfusion rfl rfl fun q12 F11 => ?_
   refine st_pr F11 (PR.op (ex_pick_t (ev_b rfl hb0) rfl) <| PR.nil) fun q13 F13 => ?_
   refine st_end <| then_n ?_
   refine wp_if_t F13 rfl ?_
   refine wp_seq <| wp_reg ?_
   refine st_pr F13 (PR.op (ex_asg rfl) <| PR.op (ex_asg rfl) <| PR.nil) fun q14 F14 => ?_
   refine st_end <| then_n ?_
   obtain rfl := some_ok H
   refine wp_ret ?_
   refine then_r ?_
   refine ret_gen (rs := [.tmp 2, .tmp 3]) (vs := [.slice none 0 0, .int .i64 5]) F14 (by rfl) ⟨_, _, rfl, RV.tmp rfl, _, _, rfl, RV.tmp rfl, rfl⟩ ⟨_, rfl, ⟨(.slice none 0 0), rfl, (SL.nilSl (T := Ty.u8) s2).f1.drop⟩⟩
  ·replace H := ite_f hb0 H
   refine st_gop F4 rfl rfl (look_b rfl hb0) (ex_fab Fx.fa90_1 rfl rfl) rfl rfl fun q16 F15 => ?_
   refine st_gop F15 rfl rfl (look_b rfl hb0) (ex_ld Fx.nag5 rfl (s2.blk_cell (.head _) rfl)) rfl rfl fun q17 F17 => ?_
   refine st_gop F17 rfl rfl (look_b rfl hb0) (ex_fab Fx.fa90_3 rfl rfl) rfl rfl fun q18 F18 => ?_
   refine st_gop F18 rfl rfl (look_b rfl hb0) (ex_ld Fx.nag3 rfl (s2.blk_cell (.head _) rfl)) rfl rfl fun q19 F19 => ?_
   refine st_gop F19 rfl rfl (look_b rfl hb0) (ex_move rfl) rfl rfl fun q20 F20 => ?_
   obtain ⟨x1, hx1, H⟩ := bind_ok H
   refine st_ungd F20 rfl (look_b rfl hb0) ?_
   refine st_call (args := [.tmp 25, .tmp 27, .tmp 28]) F20 Fx.fn100 rfl (code_fits_c (a0 := a0.Op) (a1 := a0.B) (a2 := x92.2)   hx1) rfl fun v1 w1 q21 hS2 F21 => ?_
   obtain ⟨rfl, hq2⟩ := hS2
   have s3 := s2.add hq2
   refine st_gop F21 rfl rfl (look_b rfl hb0) (ex_not rfl) rfl rfl fun q22 F22 => ?_
   refine st_pr F22 (PR.op (ex_pick_f (ev_b rfl hb0) rfl) <| PR.nil) fun q23 F23 => ?_
   refine st_end <| then_n ?_
   refine wp_if F23 rfl (fun hb1 => ?_) (fun hb1 => ?_)
   ·replace H := ite_t hb1 H
    refine wp_seq <| wp_reg ?_
    refine st_pr F23 (PR.op (ex_asg rfl) <| PR.op (ex_asg rfl) <| PR.nil) fun q24 F24 => ?_
    refine st_end <| then_n ?_
    obtain rfl := some_ok H
    refine wp_ret ?_
    refine then_r ?_
    refine ret_gen (rs := [.tmp 2, .tmp 3]) (vs := [.slice none 0 0, .int .i64 5]) F24 (by rfl) ⟨_, _, rfl, RV.tmp rfl, _, _, rfl, RV.tmp rfl, rfl⟩ ⟨_, rfl, ⟨(.slice none 0 0), rfl, (SL.nilSl (T := Ty.u8) s3).f1.drop⟩⟩
   ·replace H := ite_f hb1 H
    refine wp_skip <| then_n <| wp_seq ?_
    obtain ⟨x2, hx2, H⟩ := bind_ok H
    obtain ⟨x3, hx3, H⟩ := bind_ok H
    refine wp_regh Fx.mixed (fun w_ => SL w [] w_ [Blk g9 90 [.int .i64 a0.At, .int .u8 (a0.Op.toNat : Int), .int .i64 a0.A, .int .i64 a0.B]]) ?_
    have s4 := s3.drew
    have s5 : SL w [] _ [Blk g9 90 [.int .i64 a0.At, .int .u8 (a0.Op.toNat : Int), .int .i64 a0.A, .int .i64 a0.B]] := s4
    refine hd_take (i := 0) rfl (by kernel_rfl) (by kernel_rfl) (by kernel_rfl) (fun _ hC => ex_fab Fx.fa90_1 rfl rfl) rfl rfl rfl F23 s5 fun q25 F25 => ?_
    refine hd_take (i := 1) rfl (by kernel_rfl) (by kernel_rfl) (by kernel_rfl) (fun _ hC => ex_ld Fx.nag5 rfl (hC.blk_cell (.head _) rfl)) rfl rfl rfl F25 s5 fun q26 F26 => ?_
    refine hd_take (i := 3) rfl (by kernel_rfl) (by kernel_rfl) (by kernel_rfl) (fun _ hC => ex_fab Fx.fa90_2 rfl rfl) rfl rfl rfl F26 s5 fun q27 F27 => ?_
    refine hd_take (i := 4) rfl (by kernel_rfl) (by kernel_rfl) (by kernel_rfl) (fun _ hC => ex_ld Fx.nag3 rfl (hC.blk_cell (.head _) rfl)) rfl rfl rfl F27 s5 fun q28 F28 => ?_
    refine hd_take (i := 5) rfl (by kernel_rfl) (by kernel_rfl) (by kernel_rfl) (fun _ hC => ex_move rfl) rfl rfl rfl F28 s5 fun q29 F29 => ?_
    refine hd_take (i := 7) rfl (by kernel_rfl) (by kernel_rfl) (by kernel_rfl) (fun _ hC => ex_fab Fx.fa90_3 rfl rfl) rfl rfl rfl F29 s5 fun q30 F30 => ?_
    refine hd_take (i := 8) rfl (by kernel_rfl) (by kernel_rfl) (by kernel_rfl) (fun _ hC => ex_ld Fx.nag3 rfl (hC.blk_cell (.head _) rfl)) rfl rfl rfl F30 s5 fun q31 F31 => ?_
    refine hd_take (i := 9) rfl (by kernel_rfl) (by kernel_rfl) (by kernel_rfl) (fun _ hC => ex_move rfl) rfl rfl rfl F31 s5 fun q32 F32 => ?_
    refine hd_one (i := 2) rfl (by kernel_rfl) ?_
    refine st_bslice (parts := [(0, .tmp 33)]) Flat.u8 ([a0.Op] : List UInt8) F32 s4 Fx.sl22 rfl (by decide) rfl rfl rfl (by simp [Value.cells]) rfl rfl rfl fun v2 w2 q33 F33 s6 => ?_
    have s7 : SL w [] _ [Blk g9 90 [.int .i64 a0.At, .int .u8 (a0.Op.toNat : Int), .int .i64 a0.A, .int .i64 a0.B]] := s6.drop
    refine kq_end ⟨s7, ?_⟩
    refine hd_one (i := 6) rfl (by kernel_rfl) ?_
    have s8 := s6
    obtain ⟨G0, hs0, hF0, hG0, hc0⟩ := SL.open_ (ps := [Sl Ty.u8 v2 ([a0.Op] : List UInt8)]) (rest := [Blk g9 90 [.int .i64 a0.At, .int .u8 (a0.Op.toNat : Int), .int .i64 a0.A, .int .i64 a0.B]]) s8
    refine st_call (args := [.tmp 34, .tmp 36, .tmp 37]) F33 Fx.fn101 rfl (code_put_c (a0 := ([a0.Op] : List UInt8)) (a1 := a0.A) (a2 := x92.1) hs0  hx2) rfl fun v3 w3 q34 hS3 F34 => ?_
    obtain ⟨_, rfl, hq3⟩ := hS3
    have s9 := hc0 _ _ hq3
    have s10 : SL w [] _ [Blk g9 90 [.int .i64 a0.At, .int .u8 (a0.Op.toNat : Int), .int .i64 a0.A, .int .i64 a0.B]] := s9.drop
    refine kq_end ⟨s10, ?_⟩
    refine hd_one (i := 10) rfl (by kernel_rfl) ?_
    have s11 := s9
    obtain ⟨G1, hs1, hF1, hG1, hc1⟩ := SL.open_ (ps := [Sl Ty.u8 v3 x2]) (rest := [Blk g9 90 [.int .i64 a0.At, .int .u8 (a0.Op.toNat : Int), .int .i64 a0.A, .int .i64 a0.B]]) s11
    refine st_call (args := [.tmp 38, .tmp 40, .tmp 41]) F34 Fx.fn101 rfl (code_put_c (a0 := x2) (a1 := a0.B) (a2 := x92.2) hs1  hx3) rfl fun v4 w4 q35 hS4 F35 => ?_
    obtain ⟨_, rfl, hq4⟩ := hS4
    have s12 := hc1 _ _ hq4
    have s14 : SL w [] _ [Blk g9 90 [.int .i64 a0.At, .int .u8 (a0.Op.toNat : Int), .int .i64 a0.A, .int .i64 a0.B]] := s12.drop
    refine kq_end ⟨s14, ?_⟩
    refine hd_one (i := 11) rfl (by kernel_rfl) ?_
    refine st_op F35 (ex_asg rfl) rfl rfl rfl fun q36 F36 => ?_
    have s15 : SL w [] _ [Blk g9 90 [.int .i64 a0.At, .int .u8 (a0.Op.toNat : Int), .int .i64 a0.A, .int .i64 a0.B]] := s12.drop
    refine kq_end ⟨s15, ?_⟩
    refine hd_one (i := 12) rfl (by kernel_rfl) ?_
    refine st_op F36 (ex_asg rfl) rfl rfl rfl fun q37 F37 => ?_
    have s16 : SL w [] _ [Blk g9 90 [.int .i64 a0.At, .int .u8 (a0.Op.toNat : Int), .int .i64 a0.A, .int .i64 a0.B]] := s12.drop
    refine kq_end ⟨s16, ?_⟩
    refine hd_done (by kernel_rfl) ?_
    refine then_n ?_
    obtain rfl := some_ok H
    refine wp_ret ?_
    refine ret_gen (rs := [.tmp 2, .tmp 3]) (vs := [v4, .int .i64 0]) F37 (by rfl) ⟨_, _, rfl, RV.tmp rfl, _, _, rfl, RV.tmp rfl, rfl⟩ ⟨_, rfl, ⟨v4, rfl, s12.f1.drop⟩⟩
-- The walk of proviso/code.All.
theorem code_All_c {w : World} {v0 : Value} {a0 : List S_api_Instr} {r : (List UInt8) × Int × Int} (hr0 : Rd T_api_Instr w [] v0 a0) (H : code_All a0 = some r) :
  Calls Try.prog 45 #[v0] w (Ret fun u_ w_ => ∃ u0 : Value, u_ = .tuple ⟨[u0, .int .i64 r.2.1, .int .i64 r.2.2]⟩ ∧ SL w [] w_ [Sl Ty.u8 u0 r.1]) := by
 have s0 : SL w [] w [] := SL.init0 w
 refine call_enter Try.func45 rfl Try.ntmps45 (Nat.le_of_ble_eq_true rfl) (args := [v0]) fun q0 F0 => ?_
 unfold code_All at H
 refine wp_seq <| wp_reg ?_
 refine st_pr F0 (PR.op (ex_asg rfl) <| PR.op (ex_asg rfl) <| PR.op (ex_asg rfl) <| PR.nil) fun q3 F4 => ?_
 refine st_end <| then_n <| wp_seq <| wp_reg ?_
 refine st_pr F4 (PR.op (ex_asg rfl) <| PR.nil) fun q7 F8 => ?_
 refine st_end <| then_n <| wp_seq <| wp_seq <| wp_reg ?_
 refine st_pr F8 (PR.op (ex_move rfl) <| PR.op (ex_len rfl Try.underlying67 (formL (rdL hr0 s0))) <| PR.op (ex_move rfl) <| PR.nil) fun q1 F1 => ?_
 refine st_end <| then_n ?_
 obtain ⟨o0, H0, R0⟩ := bind_ok H
 clear H
 refine wp_cutn (fun a w_ => ∃ p0 : (List UInt8), o0 = .inr (p0) ∧ ∃ v1 : Value, Fr a 41 [(5, v1)] ∧ SL w [] w_ [Sl Ty.u8 v1 p0]) ?_ ?_
 ·have H := H0
  refine wp_block ?_
  refine wp_lp (code_All_b0 a0) (fun s1 a w_ => ∃ v2 : Value, Fr a 41 [(5, v2), (10, v0), (11, .int .i64 (a0.length : Int)), (12, .int .i64 s1.2)] ∧ SL w [] w_ [Sl Ty.u8 v2 s1.1]) H ?_ ?_
  ·exact ⟨(.slice none 0 0), F1.sub ⟨rfl, rfl, rfl, rfl, trivial⟩, (SL.nilSl (T := Ty.u8) s0)⟩
  ·intro s1 q2 w0 hI0 o1 H hr
   obtain ⟨v2, F2, s2⟩ := hI0
   replace H : code_All_b0 a0 s1 = some o1 := H
   unfold code_All_b0 at H
   refine wp_seq <| wp_reg ?_
   refine st_pr F2 (PR.op (ex_lt rfl rfl) <| PR.nil) fun q4 F3 => ?_
   refine st_end <| then_n <| wp_seq ?_
   refine wp_if F3 rfl (fun hb0 => ?_) (fun hb0 => ?_)
   ·replace H := ite_t hb0 H
    refine wp_skip <| then_n <| wp_seq <| wp_block <| wp_seq <| wp_reg ?_
    obtain ⟨x0, hx0, H⟩ := bind_ok H
    obtain ⟨a1, hi0, hc0⟩ := idxL F_api_Instr (rdL hr0 s2) Fx.sl67 rfl hx0
    refine st_pr F3 (PR.op (ex_move rfl) <| PR.op (hi0 _ _ _ _ _ _ _ _ _ _ rfl rfl) <| PR.op (ex_ldagg Fx.agg90 rfl hc0 rfl) <| PR.nil) fun q5 F5 => ?_
    refine st_alloc F5 s2 Fx.zero90 rfl rfl fun g0 w1 q6 F6 s3 => ?_
    refine st_pr F6 (PR.op (ex_asg rfl) <| PR.nil) fun q8 F7 => ?_
    have s4 := s3
    refine st_storea F7 s4 rfl rfl Fx.sz90 (one_cons rfl (one_cons rfl (one_cons rfl (one_cons rfl one_nil)))) (Nat.le_of_ble_eq_true rfl) fun w2 q9 F9 s5 => ?_
    replace s5 : SL w [] w2 [Blk g0 90 [.int .i64 x0.At, .int .u8 (x0.Op.toNat : Int), .int .i64 x0.A, .int .i64 x0.B], Sl Ty.u8 v2 s1.1] := s5
    refine st_end <| then_n <| wp_seq <| wp_reg ?_
    obtain ⟨x1, hx1, H⟩ := bind_ok H
    refine st_pr F9 (PR.op (ex_ldagg Fx.agg90 rfl (s5.blk_cells (.head _) (o := 0) (ds := [.int .i64 x0.At, .int .u8 (x0.Op.toNat : Int), .int .i64 x0.A, .int .i64 x0.B]) (fun j u hu => by rw [Nat.zero_add]; exact hu)) rfl) <| PR.nil) fun q10 F10 => ?_
    refine st_call (args := [.tmp 18]) F10 Fx.fn68 rfl (code_Encode_c (a0 := (⟨x0.At, x0.Op, x0.A, x0.B⟩ : S_api_Instr))   hx1) rfl fun v3 w3 q11 hS0 F11 => ?_
    obtain ⟨v4, rfl, hq0⟩ := hS0
    have s6 := s5.add hq0
    refine st_pr F11 (PR.op (ex_move rfl) <| PR.op (ex_extract (v := v4) rfl rfl) <| PR.op (ex_extract (v := .int .i64 x1.2) rfl rfl) <| PR.op (ex_asg rfl) <| PR.op (ex_asg rfl) <| PR.nil) fun q12 F12 => ?_
    refine st_end <| then_n <| wp_seq ?_
    obtain ⟨o2, H1, R1⟩ := bind_ok H
    clear H
    refine wp_cutn (fun a w_ => Fr a 41 [(5, v2), (6, .int .i64 s1.2), (8, v4), (9, .int .i64 o2), (10, v0), (11, .int .i64 (a0.length : Int)), (12, .int .i64 s1.2)] ∧ SL w [] w_ [Sl Ty.u8 v4 x1.1, Sl Ty.u8 v2 s1.1]) ?_ ?_
    ·have H := H1
     refine wp_seq <| wp_reg ?_
     refine st_pr F12 (PR.op (ex_move rfl) <| PR.op (ex_eq rfl rfl) <| PR.op (ex_move rfl) <| PR.nil) fun q13 F13 => ?_
     refine bool_split (x1.2 == 0) (fun hb1 => ?_) (fun hb1 => ?_)
     ·replace H := ite_t hb1 H
      refine st_gop F13 rfl rfl (look_b rfl hb1) (ex_move rfl) rfl rfl fun q14 F14 => ?_
      refine st_gop F14 rfl rfl (look_b rfl hb1) (ex_len rfl Try.underlying22 (formL (s6.own_rd (.tail _ <| .tail _ <| .head _)))) rfl rfl fun q15 F15 => ?_
      refine st_gop F15 rfl rfl (look_b rfl hb1) (ex_move rfl) rfl rfl fun q16 F16 => ?_
      refine st_gop F16 rfl rfl (look_b rfl hb1) (ex_len rfl Try.underlying22 (formL (s6.own_rd (.head _)))) rfl rfl fun q17 F17 => ?_
      refine st_gop F17 rfl rfl (look_b rfl hb1) (ex_add rfl rfl) rfl rfl fun q18 F18 => ?_
      refine st_gop F18 rfl rfl (look_b rfl hb1) (ex_gt rfl rfl) rfl rfl fun q19 F19 => ?_
      refine st_pr F19 (PR.op (ex_pick_t (ev_b rfl hb1) rfl) <| PR.nil) fun q20 F20 => ?_
      refine st_end <| then_n ?_
      refine wp_if F20 rfl (fun hb2 => ?_) (fun hb2 => ?_)
      ·replace H := ite_t hb2 H
       refine wp_reg ?_
       refine st_pr F20 (PR.op (ex_asg rfl) <| PR.nil) fun q21 F21 => ?_
       refine st_end ?_
       obtain rfl := some_ok H
       refine then_n ?_
       exact ⟨F21.sub ⟨rfl, rfl, rfl, rfl, rfl, rfl, rfl, trivial⟩, s6.f1.drop⟩
      ·replace H := ite_f hb2 H
       refine wp_skip ?_
       obtain rfl := some_ok H
       refine then_n ?_
       exact ⟨F20.sub ⟨rfl, rfl, rfl, rfl, rfl, rfl, rfl, trivial⟩, s6.f1.drop⟩
     ·replace H := ite_f hb1 H
      refine st_gskip F13 rfl rfl (look_b rfl hb1) Bool.noConfusion rfl rfl fun q22 F22 => ?_
      refine st_gskip F22 rfl rfl (look_b rfl hb1) Bool.noConfusion rfl rfl fun q23 F23 => ?_
      refine st_gskip F23 rfl rfl (look_b rfl hb1) Bool.noConfusion rfl rfl fun q24 F24 => ?_
      refine st_gskip F24 rfl rfl (look_b rfl hb1) Bool.noConfusion rfl rfl fun q25 F25 => ?_
      refine st_gskip F25 rfl rfl (look_b rfl hb1) Bool.noConfusion rfl rfl fun q26 F26 => ?_
      refine st_gskip F26 rfl rfl (look_b rfl hb1) Bool.noConfusion rfl rfl fun q27 F27 => ?_
      refine st_pr F27 (PR.op (ex_pick_f (ev_b rfl hb1) rfl) <| PR.nil) fun q28 F28 => ?_
      refine st_end <| then_n ?_
      refine wp_if_f F28 rfl ?_
      refine wp_skip ?_
      obtain rfl := some_ok H
      refine then_n ?_
      exact ⟨F28.sub ⟨rfl, rfl, rfl, rfl, rfl, rfl, rfl, trivial⟩, s6.f1.drop⟩
    ·intro q29 w4 hJ
     obtain ⟨F29, s7⟩ := hJ
     have H := R1
     clear R1 H1
     refine then_n <| wp_seq <| wp_seq <| wp_reg ?_
     refine st_pr F29 (PR.op (ex_move rfl) <| PR.op (ex_ne rfl rfl) <| PR.nil) fun q30 F30 => ?_
     refine st_end <| then_n ?_
     refine wp_if F30 rfl (fun hb3 => ?_) (fun hb3 => ?_)
     ·replace H := ite_t hb3 H
      refine wp_seq <| wp_reg ?_
      refine st_pr F30 (PR.op (ex_move rfl) <| PR.op (ex_move rfl) <| PR.op (ex_asg rfl) <| PR.op (ex_asg rfl) <| PR.op (ex_asg rfl) <| PR.nil) fun q31 F31 => ?_
      refine st_end <| then_n ?_
      obtain rfl := some_ok H
      obtain rfl := hr _ rfl
      replace H := R0
      dsimp only at H
      obtain rfl := some_ok H
      refine wp_ret ?_
      refine then_r <| blk_r <| then_r <| then_r <| blk_r <| then_r <| then_r ?_
      refine ret_gen (rs := [.tmp 2, .tmp 3, .tmp 4]) (vs := [.slice none 0 0, .int .i64 s1.2, .int .i64 o2]) F31 (by rfl) ⟨_, _, rfl, RV.tmp rfl, _, _, rfl, RV.tmp rfl, _, _, rfl, RV.tmp rfl, rfl⟩ ⟨_, rfl, ⟨(.slice none 0 0), rfl, (SL.nilSl (T := Ty.u8) s7).f1.drop.f1.drop⟩⟩
     ·replace H := ite_f hb3 H
      refine wp_skip <| then_n <| wp_reg ?_
      obtain ⟨x2, hx2, H⟩ := bind_ok H
      refine st_pr F30 (PR.op (ex_move rfl) <| PR.op (ex_move rfl) <| PR.nil) fun q32 F32 => ?_
      have s8 := s7.f1
      obtain ⟨_, hr_⟩ := (s8.own_rd (.tail _ <| .head _))
      refine st_append_rd Flat.u8 F32 s8 Fx.sl22 rfl rfl rfl rfl hr_ rfl rfl hx2 rfl fun v5 w5 q33 F33 s9 => ?_
      refine st_pr F33 (PR.op (ex_asg rfl) <| PR.nil) fun q34 F34 => ?_
      refine st_end ?_
      refine blk_n ?_
      refine then_n <| wp_reg ?_
      refine st_pr F34 (PR.op (ex_add rfl rfl) <| PR.op (ex_move rfl) <| PR.nil) fun q35 F35 => ?_
      refine st_end ?_
      obtain rfl := some_ok H
      refine then_n ?_
      exact ⟨_, rfl, v5, F35.sub ⟨rfl, rfl, rfl, rfl, trivial⟩, s9.f1.drop⟩
   ·replace H := ite_f hb0 H
    refine wp_exit <| then_x <| then_x <| blk_hit ?_
    obtain rfl := some_ok H
    obtain rfl := hr _ rfl
    refine then_n ?_
    exact ⟨_, rfl, v2, F3.sub ⟨rfl, trivial⟩, s2⟩
 ·intro q36 w6 hJ
  obtain ⟨p0, rfl, v1, F36, s10⟩ := hJ
  have H := R0
  clear R0 H0
  dsimp only at H
  refine then_n <| wp_seq <| wp_reg ?_
  refine st_pr F36 (PR.op (ex_move rfl) <| PR.op (ex_asg rfl) <| PR.op (ex_asg rfl) <| PR.op (ex_asg rfl) <| PR.nil) fun q37 F37 => ?_
  refine st_end <| then_n ?_
  obtain rfl := some_ok H
  refine wp_ret ?_
  refine ret_gen (rs := [.tmp 2, .tmp 3, .tmp 4]) (vs := [v1, .int .i64 0, .int .i64 0]) F37 (by rfl) ⟨_, _, rfl, RV.tmp rfl, _, _, rfl, RV.tmp rfl, _, _, rfl, RV.tmp rfl, rfl⟩ ⟨_, rfl, ⟨v1, rfl, s10⟩⟩
-- The walk of proviso/opt.laid.
theorem opt_laid_c {w : World} {v0 : Value} {a0 : List S_opt_item} {r : (List S_api_Instr)} (hr0 : Rd T_opt_item w [] v0 a0) (H : opt_laid a0 = some r) :
  Calls Try.prog 46 #[v0] w (Ret fun u_ w_ => ∃ u0 : Value, u_ = u0 ∧ SL w [] w_ [Sl T_api_Instr u0 r]) := by
 have s0 : SL w [] w [] := SL.init0 w
 refine call_enter Try.func46 rfl Try.ntmps46 (Nat.le_of_ble_eq_true rfl) (args := [v0]) fun q0 F0 => ?_
 unfold opt_laid at H
 refine wp_seq <| wp_reg ?_
 refine st_pr F0 (PR.op (ex_asg rfl) <| PR.nil) fun q3 F4 => ?_
 refine st_end <| then_n <| wp_seq <| wp_reg ?_
 refine st_pr F4 (PR.op (ex_asg rfl) <| PR.nil) fun q7 F8 => ?_
 refine st_end <| then_n <| wp_seq <| wp_reg ?_
 refine st_pr F8 (PR.op (ex_asg rfl) <| PR.nil) fun q11 F12 => ?_
 refine st_end <| then_n <| wp_seq <| wp_seq <| wp_reg ?_
 refine st_pr F12 (PR.op (ex_move rfl) <| PR.op (ex_len rfl Try.underlying94 (formL (rdL hr0 s0))) <| PR.op (ex_move rfl) <| PR.nil) fun q1 F1 => ?_
 refine st_end <| then_n ?_
 obtain ⟨o0, H0, R0⟩ := bind_ok H
 clear H
 refine wp_cutn (fun a w_ => ∃ v1 : Value, Fr a 53 [(0, v0), (3, v1)] ∧ SL w [] w_ [Sl T_api_Instr v1 o0]) ?_ ?_
 ·have H := H0
  refine wp_block ?_
  refine wp_lp (opt_laid_b0 a0) (fun s1 a w_ => ∃ v2 : Value, Fr a 53 [(0, v0), (3, v2), (4, .int .i64 s1.2.1), (9, v0), (10, .int .i64 (a0.length : Int)), (11, .int .i64 s1.2.2)] ∧ SL w [] w_ [Sl T_api_Instr v2 s1.1]) H ?_ ?_
  ·exact ⟨(.slice none 0 0), F1.sub ⟨rfl, rfl, rfl, rfl, rfl, rfl, trivial⟩, (SL.nilSl (T := T_api_Instr) s0)⟩
  ·intro s1 q2 w0 hI0 o1 H hr
   obtain ⟨v2, F2, s2⟩ := hI0
   replace H : opt_laid_b0 a0 s1 = some o1 := H
   unfold opt_laid_b0 at H
   refine wp_seq <| wp_reg ?_
   refine st_pr F2 (PR.op (ex_lt rfl rfl) <| PR.nil) fun q4 F3 => ?_
   refine st_end <| then_n <| wp_seq ?_
   refine wp_if F3 rfl (fun hb0 => ?_) (fun hb0 => ?_)
   ·replace H := ite_t hb0 H
    refine wp_skip <| then_n <| wp_seq <| wp_block <| wp_seq <| wp_reg ?_
    obtain ⟨x0, hx0, H⟩ := bind_ok H
    obtain ⟨a1, hi0, hc0⟩ := idxL F_opt_item (rdL hr0 s2) Fx.sl94 rfl hx0
    refine st_pr F3 (PR.op (hi0 _ _ _ _ _ _ _ _ _ _ rfl rfl) <| PR.op (ex_ldagg Fx.agg121 rfl hc0 rfl) <| PR.nil) fun q5 F5 => ?_
    refine st_alloc F5 s2 Fx.zero121 rfl rfl fun g0 w1 q6 F6 s3 => ?_
    have s4 := s3
    refine st_storea F6 s4 rfl rfl Fx.sz121 (one_cons rfl (one_cons rfl (one_cons rfl (one_cons rfl (one_cons rfl (one_cons rfl one_nil)))))) (Nat.le_of_ble_eq_true rfl) fun w2 q8 F7 s5 => ?_
    replace s5 : SL w [] w2 [Blk g0 121 [.int .i64 x0.in_.At, .int .u8 (x0.in_.Op.toNat : Int), .int .i64 x0.in_.A, .int .i64 x0.in_.B, .int .i64 x0.to, .bool x0.gone], Sl T_api_Instr v2 s1.1] := s5
    refine st_end <| then_n <| wp_seq <| wp_reg ?_
    refine st_pr F7 (PR.op (ex_move rfl) <| PR.op (ex_fab Fx.fa121_0 rfl rfl) <| PR.op (ex_fab Fx.fa90_0 rfl rfl) <| PR.nil) fun q9 F9 => ?_
    have s6 := s5
    refine st_store F9 s6 rfl rfl Fx.sz3 rfl rfl rfl fun w3 q10 F10 s7 => ?_
    replace s7 : SL w [] w3 [Blk g0 121 [.int .i64 s1.2.1, .int .u8 (x0.in_.Op.toNat : Int), .int .i64 x0.in_.A, .int .i64 x0.in_.B, .int .i64 x0.to, .bool x0.gone], Sl T_api_Instr v2 s1.1] := s7
    refine st_end <| then_n <| wp_seq <| wp_reg ?_
    refine st_pr F10 (PR.op (ex_move rfl) <| PR.op (ex_fab Fx.fa121_0 rfl rfl) <| PR.op (ex_ldagg Fx.agg90 rfl (s7.blk_cells (.head _) (o := 0) (ds := [.int .i64 s1.2.1, .int .u8 (x0.in_.Op.toNat : Int), .int .i64 x0.in_.A, .int .i64 x0.in_.B]) (subcells _ rfl)) rfl) <| PR.nil) fun q12 F11 => ?_
    refine st_bslice (parts := [(0, .tmp 20)]) F_api_Instr ([(⟨s1.2.1, x0.in_.Op, x0.in_.A, x0.in_.B⟩ : S_api_Instr)] : List S_api_Instr) F11 s7 Fx.sl67 rfl (by decide) rfl rfl rfl (by simp [Value.cells]) rfl rfl rfl fun v3 w4 q13 F13 s8 => ?_
    obtain ⟨x1, hx1, H⟩ := bind_ok H
    have s9 := s8.f2
    obtain ⟨_, hr_⟩ := (s9.own_rd (.tail _ <| .head _))
    refine st_append_rd F_api_Instr F13 s9 Fx.sl67 rfl rfl rfl rfl hr_ rfl rfl hx1 rfl fun v4 w5 q14 F14 s10 => ?_
    have s5086' := s10.f1.drop
    refine st_pr F14 (PR.op (ex_asg rfl) <| PR.nil) fun q15 F15 => ?_
    refine st_end <| then_n <| wp_reg ?_
    obtain ⟨x2, hx2, H⟩ := bind_ok H
    refine st_pr F15 (PR.op (ex_move rfl) <| PR.op (ex_fab Fx.fa121_0 rfl rfl) <| PR.op (ex_fab Fx.fa90_1 rfl rfl) <| PR.op (ex_ld Fx.nag5 rfl (s5086'.blk_cell (.tail _ <| .head _) rfl)) <| PR.nil) fun q16 F16 => ?_
    refine st_call (args := [.tmp 26]) F16 Fx.fn53 rfl (code_Size_c (a0 := x0.in_.Op)   hx2) rfl fun v5 w6 q17 hS0 F17 => ?_
    obtain ⟨rfl, hq0⟩ := hS0
    have s11 := s5086'.add hq0
    refine st_pr F17 (PR.op (ex_add rfl rfl) <| PR.op (ex_asg rfl) <| PR.nil) fun q18 F18 => ?_
    refine st_end ?_
    refine blk_n ?_
    refine then_n <| wp_reg ?_
    refine st_pr F18 (PR.op (ex_add rfl rfl) <| PR.op (ex_move rfl) <| PR.nil) fun q19 F19 => ?_
    refine st_end ?_
    obtain rfl := some_ok H
    refine then_n ?_
    exact ⟨_, rfl, v4, F19.sub ⟨rfl, rfl, rfl, rfl, rfl, rfl, trivial⟩, s11.f1.drop⟩
   ·replace H := ite_f hb0 H
    refine wp_exit <| then_x <| then_x <| blk_hit ?_
    obtain rfl := some_ok H
    obtain rfl := hr _ rfl
    refine then_n ?_
    exact ⟨v2, F3.sub ⟨rfl, rfl, trivial⟩, s2⟩
 ·intro q20 w7 hJ
  obtain ⟨v1, F20, s12⟩ := hJ
  have H := R0
  clear R0 H0
  refine then_n <| wp_seq <| wp_seq <| wp_reg ?_
  refine st_pr F20 (PR.op (ex_move rfl) <| PR.op (ex_len rfl Try.underlying94 (formL (rdL hr0 s12))) <| PR.op (ex_move rfl) <| PR.nil) fun q21 F21 => ?_
  refine st_end <| then_n ?_
  obtain ⟨o2, H1, R1⟩ := bind_ok H
  clear H
  refine wp_cutn (fun a w_ => ∃ v6 : Value, Fr a 53 [(3, v6)] ∧ SL w [] w_ [Sl T_api_Instr v6 o2]) ?_ ?_
  ·have H := H1
   refine wp_block ?_
   refine wp_lp (opt_laid_b1 a0) (fun s13 a w_ => ∃ v7 : Value, Fr a 53 [(3, v7), (30, v0), (31, .int .i64 (a0.length : Int)), (32, .int .i64 s13.2)] ∧ SL w [] w_ [Sl T_api_Instr v7 s13.1]) H ?_ ?_
   ·exact ⟨v1, F21.sub ⟨rfl, rfl, rfl, rfl, trivial⟩, s12⟩
   ·intro s13 q22 w8 hI1 o3 H hr
    obtain ⟨v7, F22, s14⟩ := hI1
    replace H : opt_laid_b1 a0 s13 = some o3 := H
    unfold opt_laid_b1 at H
    refine wp_seq <| wp_reg ?_
    refine st_pr F22 (PR.op (ex_lt rfl rfl) <| PR.nil) fun q23 F23 => ?_
    refine st_end <| then_n <| wp_seq ?_
    refine wp_if F23 rfl (fun hb1 => ?_) (fun hb1 => ?_)
    ·replace H := ite_t hb1 H
     refine wp_skip <| then_n <| wp_seq <| wp_block <| wp_seq <| wp_reg ?_
     obtain ⟨x3, hx3, H⟩ := bind_ok H
     obtain ⟨a2, hi1, hc1⟩ := idxL F_opt_item (rdL hr0 s14) Fx.sl94 rfl hx3
     refine st_pr F23 (PR.op (ex_move rfl) <| PR.op (hi1 _ _ _ _ _ _ _ _ _ _ rfl rfl) <| PR.op (ex_ldagg Fx.agg121 rfl hc1 rfl) <| PR.nil) fun q24 F24 => ?_
     refine st_alloc F24 s14 Fx.zero121 rfl rfl fun g1 w9 q25 F25 s15 => ?_
     refine st_pr F25 (PR.op (ex_asg rfl) <| PR.nil) fun q26 F26 => ?_
     have s16 := s15
     refine st_storea F26 s16 rfl rfl Fx.sz121 (one_cons rfl (one_cons rfl (one_cons rfl (one_cons rfl (one_cons rfl (one_cons rfl one_nil)))))) (Nat.le_of_ble_eq_true rfl) fun w10 q27 F27 s17 => ?_
     replace s17 : SL w [] w10 [Blk g1 121 [.int .i64 x3.in_.At, .int .u8 (x3.in_.Op.toNat : Int), .int .i64 x3.in_.A, .int .i64 x3.in_.B, .int .i64 x3.to, .bool x3.gone], Sl T_api_Instr v7 s13.1] := s17
     refine st_end <| then_n <| wp_seq <| wp_reg ?_
     obtain ⟨x4, hx4, H⟩ := bind_ok H
     refine st_pr F27 (PR.op (ex_fab Fx.fa121_0 rfl rfl) <| PR.op (ex_fab Fx.fa90_1 rfl rfl) <| PR.op (ex_ld Fx.nag5 rfl (s17.blk_cell (.head _) rfl)) <| PR.nil) fun q28 F28 => ?_
     refine st_call (args := [.tmp 39]) F28 Fx.fn55 rfl (code_Jumps_c (a0 := x3.in_.Op)   hx4) rfl fun v8 w11 q29 hS1 F29 => ?_
     obtain ⟨rfl, hq1⟩ := hS1
     have s18 := s17.add hq1
     refine st_end <| then_n ?_
     refine wp_if F29 rfl (fun hb2 => ?_) (fun hb2 => ?_)
     ·replace H := ite_t hb2 H
      refine wp_reg ?_
      obtain ⟨x5, hx5, H⟩ := bind_ok H
      obtain ⟨a3, hi2, he0⟩ := own_idx F_api_Instr s18 (.tail _ <| .head _) Fx.sl67 rfl hx5
      obtain ⟨x6, hx6, H⟩ := bind_ok H
      obtain ⟨a4, hi3, he1⟩ := own_idx F_api_Instr s18 (.tail _ <| .head _) Fx.sl67 rfl hx6
      refine st_pr F29 (PR.op (ex_move rfl) <| PR.op (ex_move rfl) <| PR.op (ex_move rfl) <| PR.op (ex_fab Fx.fa121_1 rfl rfl) <| PR.op (ex_ld Fx.nag3 rfl (s18.blk_cell (.head _) rfl)) <| PR.op (hi2 _ _ _ _ _ _ _ _ _ _ rfl rfl) <| PR.op (ex_fa Fx.fa90_0 rfl) <| PR.op (ex_ld Fx.nag3 rfl (Cells.at_ (SL.elcells F_api_Instr s18 (.tail _ <| .head _) he0 hx5) (o := 0) rfl)) <| PR.op (hi3 _ _ _ _ _ _ _ _ _ _ rfl rfl) <| PR.op (ex_fa Fx.fa90_2 rfl) <| PR.nil) fun q30 F30 => ?_
      refine st_setfld (y' := (⟨x6.At, x6.Op, x5.At, x6.B⟩ : S_api_Instr)) (o := 2) (ds := [.int .i64 x5.At]) F_api_Instr F30 s18.f1 he1 hx6 rfl rfl (by rfl) Fx.sz3 (by rfl) (one_cons rfl one_nil) (by rfl) fun w12 q31 F31 s19 => ?_
      refine st_end ?_
      refine blk_n ?_
      refine then_n <| wp_reg ?_
      refine st_pr F31 (PR.op (ex_add rfl rfl) <| PR.op (ex_move rfl) <| PR.nil) fun q32 F32 => ?_
      refine st_end ?_
      obtain rfl := some_ok H
      refine then_n ?_
      exact ⟨_, rfl, v7, F32.sub ⟨rfl, rfl, rfl, rfl, trivial⟩, s19.f1.drop⟩
     ·replace H := ite_f hb2 H
      refine wp_skip ?_
      refine blk_n ?_
      refine then_n <| wp_reg ?_
      refine st_pr F29 (PR.op (ex_add rfl rfl) <| PR.op (ex_move rfl) <| PR.nil) fun q33 F33 => ?_
      refine st_end ?_
      obtain rfl := some_ok H
      refine then_n ?_
      exact ⟨_, rfl, v7, F33.sub ⟨rfl, rfl, rfl, rfl, trivial⟩, s18.drop⟩
    ·replace H := ite_f hb1 H
     refine wp_exit <| then_x <| then_x <| blk_hit ?_
     obtain rfl := some_ok H
     obtain rfl := hr _ rfl
     refine then_n ?_
     exact ⟨v7, F23.sub ⟨rfl, trivial⟩, s14⟩
  ·intro q34 w13 hJ
   obtain ⟨v6, F34, s20⟩ := hJ
   have H := R1
   clear R1 H1
   refine then_n <| wp_seq <| wp_reg ?_
   refine st_pr F34 (PR.op (ex_move rfl) <| PR.op (ex_asg rfl) <| PR.nil) fun q35 F35 => ?_
   refine st_end <| then_n ?_
   obtain rfl := some_ok H
   refine wp_ret ?_
   refine ret_gen (rs := [.tmp 2]) (vs := [v6]) F35 (by rfl) ⟨_, _, rfl, RV.tmp rfl, rfl⟩ ⟨_, rfl, ⟨v6, rfl, s20⟩⟩
-- The walk of proviso/opt.end.
theorem opt_end_c {w : World} {v0 : Value} {a0 : List S_opt_item} {a1 : Int} {r : Int} (hr0 : Rd T_opt_item w [] v0 a0) (H : opt_end a0 a1 = some r) :
  Calls Try.prog 93 #[v0, .int .i64 a1] w (Ret fun u_ w_ => u_ = .int .i64 r ∧ SL w [] w_ []) := by
 have s0 : SL w [] w [] := SL.init0 w
 refine call_enter Try.func93 rfl Try.ntmps93 (Nat.le_of_ble_eq_true rfl) (args := [v0, .int .i64 a1]) fun q0 F0 => ?_
 unfold opt_end at H
 refine wp_seq <| wp_reg ?_
 refine st_pr F0 (PR.op (ex_asg rfl) <| PR.nil) fun q3 F4 => ?_
 refine st_end <| then_n <| wp_seq <| wp_reg ?_
 refine st_mkmap (Value.int .i64) (Value.int .i64) F4 s0 rfl fun g13 w14 q15 F16 s17 => ?_
 refine st_pr F16 (PR.op (ex_asg rfl) <| PR.nil) fun q19 F20 => ?_
 refine st_end <| then_n <| wp_seq <| wp_reg ?_
 obtain ⟨x28, hx29, H⟩ := bind_ok H
 obtain ⟨ad30, hi31, hc32⟩ := idxL F_opt_item (rdL hr0 s17) Fx.sl94 rfl hx29
 refine st_pr F20 (PR.op (ex_move rfl) <| PR.op (ex_move rfl) <| PR.op (hi31 _ _ _ _ _ _ _ _ _ _ rfl rfl) <| PR.op (ex_fa Fx.fa121_1 rfl) <| PR.op (ex_ld Fx.nag3 rfl (Cells.at_ hc32 (o := 4) rfl)) <| PR.op (ex_asg rfl) <| PR.nil) fun q33 F34 => ?_
 refine st_end <| then_n <| wp_seq <| wp_seq <| wp_reg ?_
 refine st_pr F34 (PR.op (ex_move rfl) <| PR.op (ex_move rfl) <| PR.op (ex_eq rfl rfl) <| PR.op (ex_move rfl) <| PR.nil) fun q84 F85 => ?_
 refine bool_split (x28.to == a1) (fun hb86 => ?_) (fun hb86 => ?_)
 ·replace H := ite_t hb86 H
  refine st_gskip F85 rfl rfl (look_b rfl hb86) Bool.noConfusion rfl rfl fun q87 F88 => ?_
  refine st_gskip F88 rfl rfl (look_b rfl hb86) Bool.noConfusion rfl rfl fun q89 F90 => ?_
  refine st_gskip F90 rfl rfl (look_b rfl hb86) Bool.noConfusion rfl rfl fun q91 F92 => ?_
  refine st_gskip F92 rfl rfl (look_b rfl hb86) Bool.noConfusion rfl rfl fun q93 F94 => ?_
  refine st_gskip F94 rfl rfl (look_b rfl hb86) Bool.noConfusion rfl rfl fun q95 F96 => ?_
  refine st_gskip F96 rfl rfl (look_b rfl hb86) Bool.noConfusion rfl rfl fun q97 F98 => ?_
  refine st_gskip F98 rfl rfl (look_b rfl hb86) Bool.noConfusion rfl rfl fun q99 F1 => ?_
  refine st_pr F1 (PR.op (ex_pick_t (ev_b rfl hb86) rfl) <| PR.nil) fun q1 F2 => ?_
  refine st_end <| then_n ?_
  refine wp_if_t F2 rfl ?_
  refine wp_seq <| wp_reg ?_
  refine st_pr F2 (PR.op (ex_move rfl) <| PR.op (ex_asg rfl) <| PR.nil) fun q2 F3 => ?_
  refine st_end <| then_n ?_
  obtain rfl := some_ok H
  refine wp_ret ?_
  refine then_r ?_
  refine ret_gen (rs := [.tmp 4]) (vs := [.int .i64 x28.to]) F3 (by rfl) ⟨_, _, rfl, RV.tmp rfl, rfl⟩ ⟨_, rfl, ⟨rfl, s17.drop⟩⟩
 ·replace H := ite_f hb86 H
  refine st_gop F85 rfl rfl (look_b rfl hb86) (ex_move rfl) rfl rfl fun q4 F5 => ?_
  refine st_gop F5 rfl rfl (look_b rfl hb86) (ex_move rfl) rfl rfl fun q5 F6 => ?_
  obtain ⟨x0, hx0, H⟩ := bind_ok H
  obtain ⟨a2, hi0, hc0⟩ := idxL F_opt_item (rdL hr0 s17) Fx.sl94 rfl hx0
  refine st_gop F6 rfl rfl (look_b rfl hb86) (hi0 _ _ _ _ _ _ _ _ _ _ rfl rfl) rfl rfl fun q6 F7 => ?_
  refine st_gop F7 rfl rfl (look_b rfl hb86) (ex_fa Fx.fa121_0 rfl) rfl rfl fun q7 F8 => ?_
  refine st_gop F8 rfl rfl (look_b rfl hb86) (ex_fae Fx.fa90_1 rfl rfl) rfl rfl fun q8 F9 => ?_
  refine st_gop F9 rfl rfl (look_b rfl hb86) (ex_ld Fx.nag5 rfl (Cells.at_ hc0 (o := 1) rfl)) rfl rfl fun q9 F10 => ?_
  refine st_gop F10 rfl rfl (look_b rfl hb86) (ex_ne rfl rfl) rfl rfl fun q10 F11 => ?_
  refine st_pr F11 (PR.op (ex_pick_f (ev_b rfl hb86) rfl) <| PR.nil) fun q11 F12 => ?_
  refine st_end <| then_n ?_
  refine wp_if F12 rfl (fun hb0 => ?_) (fun hb0 => ?_)
  ·replace H := ite_t hb0 H
   refine wp_seq <| wp_reg ?_
   refine st_pr F12 (PR.op (ex_move rfl) <| PR.op (ex_asg rfl) <| PR.nil) fun q12 F13 => ?_
   refine st_end <| then_n ?_
   obtain rfl := some_ok H
   refine wp_ret ?_
   refine then_r ?_
   refine ret_gen (rs := [.tmp 4]) (vs := [.int .i64 x28.to]) F13 (by rfl) ⟨_, _, rfl, RV.tmp rfl, rfl⟩ ⟨_, rfl, ⟨rfl, s17.drop⟩⟩
  ·replace H := ite_f hb0 H
   refine wp_skip <| then_n <| wp_seq ?_
   obtain ⟨o0, H0, R0⟩ := bind_ok H
   clear H
   refine wp_cutn (fun a w_ => ∃ p0 : (List (Int × Int)) × Int, o0 = .inr (p0) ∧ Fr a 50 [(6, .int .i64 p0.2)] ∧ SL w [] w_ []) ?_ ?_
   ·have H := H0
    refine wp_block ?_
    refine wp_lp (opt_end_b0 a0 a1) (fun s1 a w_ => Fr a 50 [(0, v0), (1, .int .i64 a1), (5, .map (some g13)), (6, .int .i64 s1.2)] ∧ SL w [] w_ [Mp (Value.int .i64) (Value.int .i64) g13 s1.1]) H ?_ ?_
    ·exact ⟨F12.sub ⟨rfl, rfl, rfl, rfl, trivial⟩, s17⟩
    ·intro s1 q13 w0 hI0 o1 H hr
     obtain ⟨F14, s2⟩ := hI0
     replace H : opt_end_b0 a0 a1 s1 = some o1 := H
     unfold opt_end_b0 at H
     refine wp_seq <| wp_seq <| wp_reg ?_
     obtain ⟨x1, hx1, H⟩ := bind_ok H
     obtain ⟨a3, hi1, hc1⟩ := idxL F_opt_item (rdL hr0 s2) Fx.sl94 rfl hx1
     refine st_pr F14 (PR.op (ex_move rfl) <| PR.op (ex_move rfl) <| PR.op (hi1 _ _ _ _ _ _ _ _ _ _ rfl rfl) <| PR.op (ex_fa Fx.fa121_0 rfl) <| PR.op (ex_fae Fx.fa90_1 rfl rfl) <| PR.op (ex_ld Fx.nag5 rfl (Cells.at_ hc1 (o := 1) rfl)) <| PR.op (ex_eq rfl rfl) <| PR.nil) fun q14 F15 => ?_
     refine st_end <| then_n ?_
     refine wp_if F15 rfl (fun hb1 => ?_) (fun hb1 => ?_)
     ·replace H := ite_t hb1 H
      refine wp_skip <| then_n <| wp_block <| wp_seq <| wp_seq <| wp_reg ?_
      refine st_pr F15 (PR.op (ex_move rfl) <| PR.op (ex_move rfl) <| PR.op (ex_lookup (k := s1.2) (z0 := (0 : Int)) s2 (.head _) Try.underlying109 Fx.key3 Fx.mz3 rfl rfl) <| PR.op (ex_gt rfl rfl) <| PR.nil) fun q16 F17 => ?_
      refine st_end <| then_n ?_
      refine wp_if F17 rfl (fun hb2 => ?_) (fun hb2 => ?_)
      ·replace H := ite_t hb2 H
       refine wp_seq <| wp_reg ?_
       obtain ⟨x2, hx2, H⟩ := bind_ok H
       obtain ⟨a4, hi2, hc2⟩ := idxL F_opt_item (rdL hr0 s2) Fx.sl94 rfl hx2
       refine st_pr F17 (PR.op (ex_move rfl) <| PR.op (ex_move rfl) <| PR.op (hi2 _ _ _ _ _ _ _ _ _ _ rfl rfl) <| PR.op (ex_fa Fx.fa121_1 rfl) <| PR.op (ex_ld Fx.nag3 rfl (Cells.at_ hc2 (o := 4) rfl)) <| PR.op (ex_asg rfl) <| PR.nil) fun q17 F18 => ?_
       refine st_end <| then_n ?_
       obtain rfl := some_ok H
       obtain rfl := hr _ rfl
       replace H := R0
       dsimp only at H
       obtain rfl := some_ok H
       refine wp_ret ?_
       refine then_r <| blk_r <| then_r <| blk_r <| then_r <| then_r ?_
       refine ret_gen (rs := [.tmp 4]) (vs := [.int .i64 x2.to]) F18 (by rfl) ⟨_, _, rfl, RV.tmp rfl, rfl⟩ ⟨_, rfl, ⟨rfl, s2.drop⟩⟩
      ·replace H := ite_f hb2 H
       refine wp_skip <| then_n <| wp_seq <| wp_reg ?_
       refine st_pr F17 (PR.op (ex_move rfl) <| PR.op (ex_move rfl) <| PR.nil) fun q18 F19 => ?_
       refine st_mapset (k := s1.2) (u := 1) F19 s2 Try.underlying109 Fx.key3 rfl rfl rfl fun w1 q20 F21 s3 => ?_
       refine st_end <| then_n <| wp_reg ?_
       obtain ⟨x3, hx3, H⟩ := bind_ok H
       obtain ⟨a5, hi3, hc3⟩ := idxL F_opt_item (rdL hr0 s3) Fx.sl94 rfl hx3
       refine st_pr F21 (PR.op (ex_move rfl) <| PR.op (ex_move rfl) <| PR.op (hi3 _ _ _ _ _ _ _ _ _ _ rfl rfl) <| PR.op (ex_fa Fx.fa121_1 rfl) <| PR.op (ex_ld Fx.nag3 rfl (Cells.at_ hc3 (o := 4) rfl)) <| PR.op (ex_asg rfl) <| PR.nil) fun q21 F22 => ?_
       refine st_end ?_
       refine blk_n ?_
       obtain rfl := some_ok H
       refine then_n ?_
       exact ⟨_, rfl, F22.sub ⟨rfl, rfl, rfl, rfl, trivial⟩, s3⟩
     ·replace H := ite_f hb1 H
      refine wp_exit <| then_x <| then_x <| blk_hit ?_
      obtain rfl := some_ok H
      obtain rfl := hr _ rfl
      refine then_n ?_
      exact ⟨_, rfl, F15.sub ⟨rfl, trivial⟩, s2.drop⟩
   ·intro q22 w2 hJ
    obtain ⟨p0, rfl, F23, s4⟩ := hJ
    have H := R0
    clear R0 H0
    dsimp only at H
    refine then_n <| wp_seq <| wp_reg ?_
    refine st_pr F23 (PR.op (ex_move rfl) <| PR.op (ex_asg rfl) <| PR.nil) fun q23 F24 => ?_
    refine st_end <| then_n ?_
    obtain rfl := some_ok H
    refine wp_ret ?_
    refine ret_gen (rs := [.tmp 4]) (vs := [.int .i64 p0.2]) F24 (by rfl) ⟨_, _, rfl, RV.tmp rfl, rfl⟩ ⟨_, rfl, ⟨rfl, s4⟩⟩
-- The walk of proviso/opt.threads.
theorem opt_threads_c {w : World} {v0 : Value} {a0 : List S_opt_item} {r : (List S_opt_item) × Bool} (hr0 : Rd T_opt_item w [] v0 a0) (H : opt_threads a0 = some r) :
  Calls Try.prog 63 #[v0] w (Ret fun u_ w_ => ∃ u0 : Value, u_ = .tuple ⟨[u0, .bool r.2]⟩ ∧ SL w [] w_ [Sl T_opt_item u0 r.1]) := by
 have s0 : SL w [] w [] := SL.init0 w
 refine call_enter Try.func63 rfl Try.ntmps63 (Nat.le_of_ble_eq_true rfl) (args := [v0]) fun q0 F0 => ?_
 unfold opt_threads at H
 refine wp_seq <| wp_reg ?_
 refine st_pr F0 (PR.op (ex_asg rfl) <| PR.op (ex_asg rfl) <| PR.nil) fun q3 F4 => ?_
 refine st_end <| then_n <| wp_seq <| wp_reg ?_
 refine st_pr F4 (PR.op (ex_asg rfl) <| PR.nil) fun q7 F8 => ?_
 refine st_end <| then_n <| wp_seq <| wp_reg ?_
 obtain ⟨x22, hx23, H⟩ := bind_ok H
 refine st_pr F8 (PR.op (ex_move rfl) <| PR.nil) fun q24 F25 => ?_
 have s32 := (SL.nilSl (T := T_opt_item) s0)
 obtain ⟨_, hr_⟩ := (rdL hr0 s32)
 refine st_append_rd F_opt_item F25 s32 Fx.sl94 rfl rfl rfl rfl hr_ rfl rfl hx23 rfl fun v27 w28 q29 F30 s31 => ?_
 refine st_pr F30 (PR.op (ex_asg rfl) <| PR.nil) fun q33 F34 => ?_
 refine st_end <| then_n <| wp_seq <| wp_seq <| wp_reg ?_
 refine st_pr F34 (PR.op (ex_move rfl) <| PR.op (ex_len rfl Try.underlying94 (formL (rdL hr0 s31))) <| PR.op (ex_move rfl) <| PR.nil) fun q1 F1 => ?_
 refine st_end <| then_n ?_
 obtain ⟨o0, H0, R0⟩ := bind_ok H
 clear H
 refine wp_cutn (fun a w_ => ∃ v1 : Value, Fr a 41 [(4, .bool o0.1), (5, v1)] ∧ SL w [] w_ [Sl T_opt_item v1 o0.2]) ?_ ?_
 ·have H := H0
  refine wp_block ?_
  refine wp_lp (opt_threads_b0 a0) (fun s1 a w_ => ∃ v2 : Value, Fr a 41 [(0, v0), (4, .bool s1.1), (5, v2), (11, v0), (12, .int .i64 (a0.length : Int)), (13, .int .i64 s1.2.2)] ∧ SL w [] w_ [Sl T_opt_item v2 s1.2.1]) H ?_ ?_
  ·exact ⟨v27, F1.sub ⟨rfl, rfl, rfl, rfl, rfl, rfl, trivial⟩, s31⟩
  ·intro s1 q2 w0 hI0 o1 H hr
   obtain ⟨v2, F2, s2⟩ := hI0
   replace H : opt_threads_b0 a0 s1 = some o1 := H
   unfold opt_threads_b0 at H
   refine wp_seq <| wp_reg ?_
   refine st_pr F2 (PR.op (ex_lt rfl rfl) <| PR.nil) fun q4 F3 => ?_
   refine st_end <| then_n <| wp_seq ?_
   refine wp_if F3 rfl (fun hb0 => ?_) (fun hb0 => ?_)
   ·replace H := ite_t hb0 H
    refine wp_skip <| then_n <| wp_seq <| wp_block <| wp_seq <| wp_reg ?_
    obtain ⟨x0, hx0, H⟩ := bind_ok H
    obtain ⟨a2, hi0, hc0⟩ := idxL F_opt_item (rdL hr0 s2) Fx.sl94 rfl hx0
    refine st_pr F3 (PR.op (ex_move rfl) <| PR.op (hi0 _ _ _ _ _ _ _ _ _ _ rfl rfl) <| PR.op (ex_ldagg Fx.agg121 rfl hc0 rfl) <| PR.nil) fun q5 F5 => ?_
    refine st_alloc F5 s2 Fx.zero121 rfl rfl fun g0 w1 q6 F6 s3 => ?_
    refine st_pr F6 (PR.op (ex_asg rfl) <| PR.nil) fun q8 F7 => ?_
    have s4 := s3
    refine st_storea F7 s4 rfl rfl Fx.sz121 (one_cons rfl (one_cons rfl (one_cons rfl (one_cons rfl (one_cons rfl (one_cons rfl one_nil)))))) (Nat.le_of_ble_eq_true rfl) fun w2 q9 F9 s5 => ?_
    replace s5 : SL w [] w2 [Blk g0 121 [.int .i64 x0.in_.At, .int .u8 (x0.in_.Op.toNat : Int), .int .i64 x0.in_.A, .int .i64 x0.in_.B, .int .i64 x0.to, .bool x0.gone], Sl T_opt_item v2 s1.2.1] := s5
    refine st_end <| then_n <| wp_seq <| wp_seq <| wp_reg ?_
    obtain ⟨x1, hx1, H⟩ := bind_ok H
    refine st_pr F9 (PR.op (ex_fab Fx.fa121_0 rfl rfl) <| PR.op (ex_fab Fx.fa90_1 rfl rfl) <| PR.op (ex_ld Fx.nag5 rfl (s5.blk_cell (.head _) rfl)) <| PR.nil) fun q10 F10 => ?_
    refine st_call (args := [.tmp 20]) F10 Fx.fn55 rfl (code_Jumps_c (a0 := x0.in_.Op)   hx1) rfl fun v3 w3 q11 hS0 F11 => ?_
    obtain ⟨rfl, hq0⟩ := hS0
    have s6 := s5.add hq0
    refine st_pr F11 (PR.op (ex_not rfl) <| PR.nil) fun q12 F12 => ?_
    refine st_end <| then_n ?_
    refine wp_if F12 rfl (fun hb1 => ?_) (fun hb1 => ?_)
    ·replace H := ite_t hb1 H
     refine wp_exit <| then_x <| blk_hit <| then_n <| wp_reg ?_
     refine st_pr F12 (PR.op (ex_add rfl rfl) <| PR.op (ex_move rfl) <| PR.nil) fun q13 F13 => ?_
     refine st_end ?_
     obtain rfl := some_ok H
     refine then_n ?_
     exact ⟨_, rfl, v2, F13.sub ⟨rfl, rfl, rfl, rfl, rfl, rfl, trivial⟩, s6.drop⟩
    ·replace H := ite_f hb1 H
     refine wp_skip <| then_n <| wp_seq <| wp_reg ?_
     obtain ⟨x2, hx2, H⟩ := bind_ok H
     refine st_pr F12 (PR.op (ex_move rfl) <| PR.op (ex_move rfl) <| PR.nil) fun q14 F14 => ?_
     refine st_call (args := [.tmp 23, .tmp 24]) F14 Fx.fn93 rfl (opt_end_c (a0 := a0) (a1 := s1.2.2)  (hr0.pass0 s6) hx2) rfl fun v4 w4 q15 hS1 F15 => ?_
     obtain ⟨rfl, hq1⟩ := hS1
     have s7 := s6.add hq1
     refine st_pr F15 (PR.op (ex_asg rfl) <| PR.nil) fun q16 F16 => ?_
     refine st_end <| then_n <| wp_seq <| wp_reg ?_
     refine st_pr F16 (PR.op (ex_move rfl) <| PR.op (ex_move rfl) <| PR.nil) fun q17 F17 => ?_
     refine bool_split s1.1 (fun hb2 => ?_) (fun hb2 => ?_)
     ·replace H := ite_t hb2 H
      refine st_gskip F17 rfl rfl (look_b rfl hb2) Bool.noConfusion rfl rfl fun q18 F18 => ?_
      refine st_gskip F18 rfl rfl (look_b rfl hb2) Bool.noConfusion rfl rfl fun q19 F19 => ?_
      refine st_gskip F19 rfl rfl (look_b rfl hb2) Bool.noConfusion rfl rfl fun q20 F20 => ?_
      refine st_gskip F20 rfl rfl (look_b rfl hb2) Bool.noConfusion rfl rfl fun q21 F21 => ?_
      refine st_pr F21 (PR.op (ex_pick_t (ev_b rfl hb2) rfl) <| PR.op (ex_asg rfl) <| PR.nil) fun q22 F22 => ?_
      refine st_end <| then_n <| wp_reg ?_
      obtain ⟨x3, hx3, H⟩ := bind_ok H
      obtain ⟨a3, hi1, he0⟩ := own_idx F_opt_item s7 (.tail _ <| .head _) Fx.sl94 rfl hx3
      refine st_pr F22 (PR.op (ex_move rfl) <| PR.op (ex_move rfl) <| PR.op (ex_move rfl) <| PR.op (hi1 _ _ _ _ _ _ _ _ _ _ rfl rfl) <| PR.op (ex_fa Fx.fa121_1 rfl) <| PR.nil) fun q23 F23 => ?_
      refine st_setfld (y' := (⟨(⟨x3.in_.At, x3.in_.Op, x3.in_.A, x3.in_.B⟩ : S_api_Instr), x2, x3.gone⟩ : S_opt_item)) (o := 4) (ds := [.int .i64 x2]) F_opt_item F23 s7.f1 he0 hx3 rfl rfl (by rfl) Fx.sz3 (by rfl) (one_cons rfl one_nil) (by rfl) fun w5 q25 F24 s8 => ?_
      refine st_end ?_
      refine blk_n ?_
      refine then_n <| wp_reg ?_
      refine st_pr F24 (PR.op (ex_add rfl rfl) <| PR.op (ex_move rfl) <| PR.nil) fun q26 F26 => ?_
      refine st_end ?_
      obtain rfl := some_ok H
      refine then_n ?_
      exact ⟨_, rfl, v2, F26.sub ⟨rfl, rfl, rfl, rfl, rfl, rfl, trivial⟩, s8.f1.drop⟩
     ·replace H := ite_f hb2 H
      refine st_gop F17 rfl rfl (look_b rfl hb2) (ex_move rfl) rfl rfl fun q27 F27 => ?_
      refine st_gop F27 rfl rfl (look_b rfl hb2) (ex_fab Fx.fa121_1 rfl rfl) rfl rfl fun q28 F28 => ?_
      refine st_gop F28 rfl rfl (look_b rfl hb2) (ex_ld Fx.nag3 rfl (s7.blk_cell (.head _) rfl)) rfl rfl fun q30 F29 => ?_
      refine st_gop F29 rfl rfl (look_b rfl hb2) (ex_ne rfl rfl) rfl rfl fun q31 F31 => ?_
      refine st_pr F31 (PR.op (ex_pick_f (ev_b rfl hb2) rfl) <| PR.op (ex_asg rfl) <| PR.nil) fun q32 F32 => ?_
      refine st_end <| then_n <| wp_reg ?_
      obtain ⟨x4, hx4, H⟩ := bind_ok H
      obtain ⟨a4, hi2, he1⟩ := own_idx F_opt_item s7 (.tail _ <| .head _) Fx.sl94 rfl hx4
      refine st_pr F32 (PR.op (ex_move rfl) <| PR.op (ex_move rfl) <| PR.op (ex_move rfl) <| PR.op (hi2 _ _ _ _ _ _ _ _ _ _ rfl rfl) <| PR.op (ex_fa Fx.fa121_1 rfl) <| PR.nil) fun q34 F33 => ?_
      refine st_setfld (y' := (⟨(⟨x4.in_.At, x4.in_.Op, x4.in_.A, x4.in_.B⟩ : S_api_Instr), x2, x4.gone⟩ : S_opt_item)) (o := 4) (ds := [.int .i64 x2]) F_opt_item F33 s7.f1 he1 hx4 rfl rfl (by rfl) Fx.sz3 (by rfl) (one_cons rfl one_nil) (by rfl) fun w6 q35 F35 s9 => ?_
      refine st_end ?_
      refine blk_n ?_
      refine then_n <| wp_reg ?_
      refine st_pr F35 (PR.op (ex_add rfl rfl) <| PR.op (ex_move rfl) <| PR.nil) fun q36 F36 => ?_
      refine st_end ?_
      obtain rfl := some_ok H
      refine then_n ?_
      exact ⟨_, rfl, v2, F36.sub ⟨rfl, rfl, rfl, rfl, rfl, rfl, trivial⟩, s9.f1.drop⟩
   ·replace H := ite_f hb0 H
    refine wp_exit <| then_x <| then_x <| blk_hit ?_
    obtain rfl := some_ok H
    obtain rfl := hr _ rfl
    refine then_n ?_
    exact ⟨v2, F3.sub ⟨rfl, rfl, trivial⟩, s2⟩
 ·intro q37 w7 hJ
  obtain ⟨v1, F37, s10⟩ := hJ
  have H := R0
  clear R0 H0
  refine then_n <| wp_seq <| wp_reg ?_
  refine st_pr F37 (PR.op (ex_move rfl) <| PR.op (ex_move rfl) <| PR.op (ex_asg rfl) <| PR.op (ex_asg rfl) <| PR.nil) fun q38 F38 => ?_
  refine st_end <| then_n ?_
  obtain rfl := some_ok H
  refine wp_ret ?_
  refine ret_gen (rs := [.tmp 2, .tmp 3]) (vs := [v1, .bool o0.1]) F38 (by rfl) ⟨_, _, rfl, RV.tmp rfl, _, _, rfl, RV.tmp rfl, rfl⟩ ⟨_, rfl, ⟨v1, rfl, s10⟩⟩
-- A map's keys, in order: whatever order they come in, they are sorted.
theorem perm_sortI {l l' : List Int} (h : l.Perm l') : sortI l = sortI l' := by
 unfold sortI
 exact List.Perm.eq_of_pairwise (le := fun a b => decide (a ≤ b) = true) (fun a b _ _ h1 h2 => by simp at h1 h2; omega) (List.pairwise_mergeSort (fun a b c h1 h2 => by simp at h1 h2 ⊢; omega) (fun a b => by simp; omega) _) (List.pairwise_mergeSort (fun a b c h1 h2 => by simp at h1 h2 ⊢; omega) (fun a b => by simp; omega) _) ((List.mergeSort_perm _ _).trans (h.trans (List.mergeSort_perm _ _).symm))
theorem flow_rising_int_c {w : World} {FF : List Nat} {g0 : Nat} {a0 : List (Int × Int)} {r : List Int} (hst : Star [Mp (Value.int .i64) (Value.int .i64) g0 a0] w FF) (H : flow_rising_int a0 = some r) :
  Calls Try.prog 114 #[.map (some g0)] w (Ret fun u_ w_ => ∃ u0 : Value, u_ = u0 ∧ SL w FF w_ [Mp (Value.int .i64) (Value.int .i64) g0 a0, Sl (Ty.int .i64) u0 r]) := by
 have s0 : SL w FF w [Mp (Value.int .i64) (Value.int .i64) g0 a0] := SL.init w FF hst
 unfold flow_rising_int at H
 split at H
 ·rename_i hlen
  obtain rfl := some_ok H
  refine call_enter Try.func114 rfl Try.ntmps114 (Nat.le_of_ble_eq_true rfl) (args := [.map (some g0)]) fun q0 F0 => ?_
  refine wp_seq <| wp_reg ?_
  refine st_pr F0 (PR.op (ex_asg rfl) <| PR.nil) fun q1 F1 => ?_
  refine st_end <| then_n <| wp_seq <| wp_reg ?_
  refine st_pr F1 (PR.op (ex_asg rfl) <| PR.nil) fun q2 F2 => ?_
  refine st_end <| then_n <| wp_seq ?_
  refine wp_cutn (fun a w_ => ∃ (v : Value) (js : List Nat), js.Perm (List.range a0.length) ∧ Fr a 18 [(3, v)] ∧ SL w FF w_ [Sl (Ty.int .i64) v ((pick a0 js).map Prod.fst), Mp (Value.int .i64) (Value.int .i64) g0 a0]) ?_ ?_
  ·refine wp_seq <| wp_reg ?_
   refine st_pr F2 (PR.op (ex_move rfl) <| PR.nil) fun q3 F3 => ?_
   refine st_range F3 s0 Try.underlying109 rfl rfl fun it w4 q4 F4 s4 => ?_
   refine st_end <| then_n <| wp_block ?_
   refine wp_lp (S := Nat) (R := Unit) (fun s => if s = 0 then some (.inr ()) else some (.inl (s - 1))) (fun s a w_ => ∃ (v : Value) (js : List Nat), js.Nodup ∧ (∀ j ∈ js, j < a0.length) ∧ js.length + s = a0.length ∧ Fr a 18 [(3, v), (6, .pointer (some ⟨it, 0, none⟩))] ∧ SL w FF w_ [Sl (Ty.int .i64) v ((pick a0 js).map Prod.fst), MpIt (Value.int .i64) (Value.int .i64) g0 it a0 js]) (s := a0.length) (r := ()) ?_ ?_ ?_
   ·have : ∀ k, loopO (fun s : Nat => if s = 0 then some (.inr ()) else some (.inl (s - 1))) k = some () := by
     intro k
     induction k with
     | zero => rw [loopO_eq]; rfl
     | succ k ih => rw [loopO_eq, if_neg (by omega)]; exact ih
    exact this _
   ·exact ⟨.slice none 0 0, [], by simp, by simp, by simp, F4.sub ⟨rfl, rfl, trivial⟩, SL.nilSl s4⟩
   ·rintro s a w_ ⟨v, js, hn, hl, hls, F5, s5⟩ o ho hr
    refine wp_seq <| wp_reg ?_
    refine st_next F5 s5.f1 rfl rfl (fun q6 hperm F6 => ?_) (fun j p w6 q6 hp hn' hl' F6 s6 => ?_)
    ·have h0 : s = 0 := by
      have := hperm.length_eq
      rw [List.length_range] at this
      omega
     subst h0
     obtain rfl : .inr () = o := some_ok ho
     refine st_pr F6 (PR.op (ex_extract (v := .bool false) rfl rfl) <| PR.nil) fun q7 F7 => ?_
     refine st_end <| then_n <| wp_seq ?_
     refine wp_if_f F7 rfl ?_
     refine wp_exit <| then_x <| then_x <| blk_hit ?_
     exact ⟨v, js, hperm, F7.sub ⟨rfl, trivial⟩, s5.f1.unit.f1⟩
    ·have hs : s ≠ 0 := by
      intro h0
      have h7 := rest_perm hn' hl'
      have h8 := h7.length_eq
      rw [List.length_append, List.length_append, List.length_range] at h8
      simp only [List.length_cons, List.length_nil] at h8
      omega
     obtain ⟨s', rfl⟩ : ∃ s', s = s' + 1 := ⟨s - 1, by omega⟩
     rw [if_neg (by omega)] at ho
     obtain rfl : .inl (s' + 1 - 1) = o := some_ok ho
     refine st_pr F6 (PR.op (ex_extract (v := .bool true) rfl rfl) <| PR.nil) fun q7 F7 => ?_
     refine st_end <| then_n <| wp_seq ?_
     refine wp_if_t F7 rfl ?_
     refine wp_skip <| then_n <| wp_block <| wp_seq <| wp_reg ?_
     refine st_pr F7 (PR.op (ex_entry s6 (.head _) hp rfl) <| PR.op (ex_extract (v := .int .i64 p.1) rfl rfl) <| PR.op (ex_asg rfl) <| PR.nil) fun q8 F8 => ?_
     refine st_end <| then_n <| wp_reg ?_
     refine st_pr F8 (PR.op (ex_move rfl) <| PR.op (ex_move rfl) <| PR.nil) fun q9 F9 => ?_
     refine st_bslice (parts := [(0, .tmp 12)]) (Flat.int .i64) ([p.1] : List Int) F9 s6 Fx.sl57 rfl (by decide) rfl rfl rfl (by simp [Value.cells]) rfl rfl rfl fun v10 w10 q10 F10 s10 => ?_
     have s11 := s10.f2
     obtain ⟨_, hr_⟩ := (s11.own_rd (.tail _ <| .head _))
     have happ : app 17592186044416 ((pick a0 js).map Prod.fst) [p.1] = some ((pick a0 (js ++ [j])).map Prod.fst) := by
      have h7 : (pick a0 js).length ≤ js.length := List.length_filterMap_le _ _
      unfold app
      rw [if_pos (by simp; omega), pick_snoc hp, List.map_append]
      rfl
     refine st_append_rd (Flat.int .i64) F10 s11 Fx.sl57 rfl rfl rfl rfl hr_ rfl rfl happ rfl fun v12 w12 q12 F12 s12 => ?_
     refine st_pr F12 (PR.op (ex_asg rfl) <| PR.nil) fun q13 F13 => ?_
     refine st_end ?_
     refine blk_n <| then_n ?_
     refine ⟨s' + 1 - 1, rfl, v12, js ++ [j], hn', hl', by simp; omega, F13.sub ⟨rfl, rfl, trivial⟩, s12.f1.drop⟩
  ·rintro a14 w14 ⟨v, js, hperm, F14, s14⟩
   have hk : ((pick a0 js).map Prod.fst).Perm (a0.map Prod.fst) := (pick_perm hperm).map _
   have hlen2 := hk.length_eq
   rw [List.length_map, List.length_map] at hlen2
   have hsort : sortO ((pick a0 js).map Prod.fst) = some (sortI (a0.map Prod.fst)) := by
    unfold sortO
    rw [if_pos (by rw [List.length_map]; omega), perm_sortI hk]
   refine wp_seq <| wp_reg ?_
   refine st_pr F14 (PR.op (ex_move rfl) <| PR.nil) fun q15 F15 => ?_
   obtain ⟨G16, hst16, hF16, hG16, hcl16⟩ := SL.open_ (ps := [Sl (Ty.int .i64) v ((pick a0 js).map Prod.fst)]) (rest := [Mp (Value.int .i64) (Value.int .i64) g0 a0]) s14
   refine st_call (args := [.tmp 15]) F15 Fx.fn42 rfl (sort_own lays_sort hst16 hsort) rfl fun v17 w17 q17 hS17 F17 => ?_
   obtain ⟨rfl, hq17⟩ := hS17
   have s18 := hcl16 _ _ hq17
   refine st_end <| then_n <| wp_seq <| wp_reg ?_
   refine st_pr F17 (PR.op (ex_move rfl) <| PR.op (ex_asg rfl) <| PR.nil) fun q19 F19 => ?_
   refine st_end <| then_n ?_
   refine wp_ret ?_
   refine ret_gen (rs := [.tmp 2]) (vs := [v]) F19 (by rfl) ⟨_, _, rfl, RV.tmp rfl, rfl⟩ ⟨_, rfl, v, rfl, s18.f1⟩
 ·cases H
-- The walk of proviso/flow.placed.
theorem flow_placed_c {w : World} {a0 : S_api_Instr} {r : Bool}  (H : flow_placed a0 = some r) :
  Calls Try.prog 122 #[.agg ⟨[.int .i64 a0.At, .int .u8 (a0.Op.toNat : Int), .int .i64 a0.A, .int .i64 a0.B]⟩] w (Ret fun u_ w_ => u_ = .bool r ∧ SL w [] w_ []) := by
 have s0 : SL w [] w [] := SL.init0 w
 refine call_enter Try.func122 rfl Try.ntmps122 (Nat.le_of_ble_eq_true rfl) (args := [.agg ⟨[.int .i64 a0.At, .int .u8 (a0.Op.toNat : Int), .int .i64 a0.A, .int .i64 a0.B]⟩]) fun q0 F0 => ?_
 unfold flow_placed at H
 refine wp_seq <| wp_reg ?_
 refine st_box F0 s0 rfl rfl rfl fun g9 w10 q11 F12 s13 => ?_
 refine st_pr F12 (PR.op (ex_asg rfl) <| PR.nil) fun q15 F16 => ?_
 refine st_end <| then_n <| wp_seq <| wp_reg ?_
 refine st_pr F16 (PR.op (ex_fab Fx.fa90_0 rfl rfl) <| PR.op (ex_ld Fx.nag3 rfl (s13.blk_cell (.head _) rfl)) <| PR.op (ex_ge rfl rfl) <| PR.op (ex_move rfl) <| PR.nil) fun q36 F37 => ?_
 refine bool_split (decide (a0.At ≥ 0)) (fun hb38 => ?_) (fun hb38 => ?_)
 ·replace H := ite_t hb38 H
  refine st_gop F37 rfl rfl (look_b rfl hb38) (ex_fab Fx.fa90_0 rfl rfl) rfl rfl fun q39 F40 => ?_
  refine st_gop F40 rfl rfl (look_b rfl hb38) (ex_ld Fx.nag3 rfl (s13.blk_cell (.head _) rfl)) rfl rfl fun q41 F42 => ?_
  refine st_gop F42 rfl rfl (look_b rfl hb38) (ex_lt rfl rfl) rfl rfl fun q43 F44 => ?_
  refine st_pr F44 (PR.op (ex_pick_t (ev_b rfl hb38) rfl) <| PR.op (ex_asg rfl) <| PR.nil) fun q45 F46 => ?_
  refine st_end <| then_n ?_
  obtain rfl := some_ok H
  refine wp_ret ?_
  refine ret_gen (rs := [.tmp 2]) (vs := [.bool (decide (a0.At < 4096))]) F46 (by rfl) ⟨_, _, rfl, RV.tmp rfl, rfl⟩ ⟨_, rfl, ⟨rfl, s13.drop⟩⟩
 ·replace H := ite_f hb38 H
  refine st_gskip F37 rfl rfl (look_b rfl hb38) Bool.noConfusion rfl rfl fun q47 F48 => ?_
  refine st_gskip F48 rfl rfl (look_b rfl hb38) Bool.noConfusion rfl rfl fun q49 F50 => ?_
  refine st_gskip F50 rfl rfl (look_b rfl hb38) Bool.noConfusion rfl rfl fun q51 F52 => ?_
  refine st_pr F52 (PR.op (ex_pick_f (ev_b rfl hb38) rfl) <| PR.op (ex_asg rfl) <| PR.nil) fun q53 F54 => ?_
  refine st_end <| then_n ?_
  obtain rfl := some_ok H
  refine wp_ret ?_
  refine ret_gen (rs := [.tmp 2]) (vs := [.bool false]) F54 (by rfl) ⟨_, _, rfl, RV.tmp rfl, rfl⟩ ⟨_, rfl, ⟨rfl, s13.drop⟩⟩
-- The walk of proviso/flow.Next.
theorem flow_Next_c {w : World} {a0 : S_api_Instr} {r : (List Int)}  (H : flow_Next a0 = some r) :
  Calls Try.prog 113 #[.agg ⟨[.int .i64 a0.At, .int .u8 (a0.Op.toNat : Int), .int .i64 a0.A, .int .i64 a0.B]⟩] w (Ret fun u_ w_ => ∃ u0 : Value, u_ = u0 ∧ SL w [] w_ [Sl (Ty.int .i64) u0 r]) := by
 have s0 : SL w [] w [] := SL.init0 w
 refine call_enter Try.func113 rfl Try.ntmps113 (Nat.le_of_ble_eq_true rfl) (args := [.agg ⟨[.int .i64 a0.At, .int .u8 (a0.Op.toNat : Int), .int .i64 a0.A, .int .i64 a0.B]⟩]) fun q0 F0 => ?_
 unfold flow_Next at H
 refine wp_seq <| wp_reg ?_
 refine st_box F0 s0 rfl rfl rfl fun g9 w10 q11 F12 s13 => ?_
 refine st_pr F12 (PR.op (ex_asg rfl) <| PR.nil) fun q15 F16 => ?_
 refine st_end <| then_n <| wp_seq <| wp_seq <| wp_reg ?_
 obtain ⟨x63, hx64, H⟩ := bind_ok H
 refine st_pr F16 (PR.op (ex_fab Fx.fa90_1 rfl rfl) <| PR.op (ex_ld Fx.nag5 rfl (s13.blk_cell (.head _) rfl)) <| PR.nil) fun q65 F66 => ?_
 refine st_call (args := [.tmp 5]) F66 Fx.fn53 rfl (code_Size_c (a0 := a0.Op)   hx64) rfl fun v67 w68 q69 hS71 F70 => ?_
 obtain ⟨rfl, hq73⟩ := hS71
 have s72 := s13.add hq73
 refine st_pr F70 (PR.op (ex_eq rfl rfl) <| PR.op (ex_move rfl) <| PR.nil) fun q74 F75 => ?_
 refine bool_split (x63 == 0) (fun hb76 => ?_) (fun hb76 => ?_)
 ·replace H := ite_t hb76 H
  refine st_gskip F75 rfl rfl (look_b rfl hb76) Bool.noConfusion rfl rfl fun q77 F78 => ?_
  refine st_gskip F78 rfl rfl (look_b rfl hb76) Bool.noConfusion rfl rfl fun q79 F80 => ?_
  refine st_gskip F80 rfl rfl (look_b rfl hb76) Bool.noConfusion rfl rfl fun q81 F82 => ?_
  refine st_pr F82 (PR.op (ex_pick_t (ev_b rfl hb76) rfl) <| PR.nil) fun q83 F84 => ?_
  refine st_end <| then_n ?_
  refine wp_if_t F84 rfl ?_
  refine wp_seq <| wp_reg ?_
  refine st_pr F84 (PR.op (ex_asg rfl) <| PR.nil) fun q87 F88 => ?_
  refine st_end <| then_n ?_
  obtain rfl := some_ok H
  refine wp_ret ?_
  refine then_r ?_
  refine ret_gen (rs := [.tmp 2]) (vs := [.slice none 0 0]) F88 (by rfl) ⟨_, _, rfl, RV.tmp rfl, rfl⟩ ⟨_, rfl, ⟨(.slice none 0 0), rfl, (SL.nilSl (T := (Ty.int .i64)) s72).f1.drop⟩⟩
 ·replace H := ite_f hb76 H
  refine st_gop F75 rfl rfl (look_b rfl hb76) (ex_ldagg Fx.agg90 rfl (s72.blk_cells (.head _) (o := 0) (ds := [.int .i64 a0.At, .int .u8 (a0.Op.toNat : Int), .int .i64 a0.A, .int .i64 a0.B]) (fun j u hu => by rw [Nat.zero_add]; exact hu)) rfl) rfl rfl fun q89 F90 => ?_
  obtain ⟨x91, hx92, H⟩ := bind_ok H
  refine st_ungd F90 rfl (look_b rfl hb76) ?_
  refine st_call (args := [.tmp 9]) F90 Fx.fn122 rfl (flow_placed_c (a0 := (⟨a0.At, a0.Op, a0.A, a0.B⟩ : S_api_Instr))   hx92) rfl fun v93 w94 q95 hS97 F96 => ?_
  obtain ⟨rfl, hq99⟩ := hS97
  have s98 := s72.add hq99
  refine st_gop F96 rfl rfl (look_b rfl hb76) (ex_not rfl) rfl rfl fun q1 F1 => ?_
  refine st_pr F1 (PR.op (ex_pick_f (ev_b rfl hb76) rfl) <| PR.nil) fun q2 F2 => ?_
  refine st_end <| then_n ?_
  refine wp_if F2 rfl (fun hb0 => ?_) (fun hb0 => ?_)
  ·replace H := ite_t hb0 H
   refine wp_seq <| wp_reg ?_
   refine st_pr F2 (PR.op (ex_asg rfl) <| PR.nil) fun q3 F3 => ?_
   refine st_end <| then_n ?_
   obtain rfl := some_ok H
   refine wp_ret ?_
   refine then_r ?_
   refine ret_gen (rs := [.tmp 2]) (vs := [.slice none 0 0]) F3 (by rfl) ⟨_, _, rfl, RV.tmp rfl, rfl⟩ ⟨_, rfl, ⟨(.slice none 0 0), rfl, (SL.nilSl (T := (Ty.int .i64)) s98).f1.drop⟩⟩
  ·replace H := ite_f hb0 H
   refine wp_skip <| then_n <| wp_seq <| wp_reg ?_
   refine st_mkmap (Value.int .i64) (Value.int .i64) F2 s98 rfl fun g0 w0 q4 F4 s1 => ?_
   refine st_pr F4 (PR.op (ex_asg rfl) <| PR.nil) fun q5 F5 => ?_
   refine st_end <| then_n <| wp_seq <| wp_seq <| wp_reg ?_
   obtain ⟨x0, hx0, H⟩ := bind_ok H
   refine st_pr F5 (PR.op (ex_fab Fx.fa90_1 rfl rfl) <| PR.op (ex_ld Fx.nag5 rfl (s1.blk_cell (.tail _ <| .head _) rfl)) <| PR.nil) fun q6 F6 => ?_
   refine st_call (args := [.tmp 15]) F6 Fx.fn56 rfl (code_Ends_c (a0 := a0.Op)   hx0) rfl fun v0 w1 q7 hS0 F7 => ?_
   obtain ⟨rfl, hq0⟩ := hS0
   have s2 := s1.add hq0
   refine st_pr F7 (PR.op (ex_not rfl) <| PR.nil) fun q8 F8 => ?_
   refine st_end <| then_n ?_
   refine wp_if F8 rfl (fun hb1 => ?_) (fun hb1 => ?_)
   ·replace H := ite_t hb1 H
    obtain ⟨x1, hx1, H⟩ := bind_ok H
    refine wp_regh Fx.mixed (fun w_ => SL w [] w_ [Blk g9 90 [.int .i64 a0.At, .int .u8 (a0.Op.toNat : Int), .int .i64 a0.A, .int .i64 a0.B]]) ?_
    have s3 := s2.drew
    have s4 : SL w [] _ [Blk g9 90 [.int .i64 a0.At, .int .u8 (a0.Op.toNat : Int), .int .i64 a0.A, .int .i64 a0.B]] := s3.drop
    refine hd_take (i := 0) rfl (by kernel_rfl) (by kernel_rfl) (by kernel_rfl) (fun _ hC => ex_move rfl) rfl rfl rfl F8 s4 fun q9 F9 => ?_
    refine hd_take (i := 1) rfl (by kernel_rfl) (by kernel_rfl) (by kernel_rfl) (fun _ hC => ex_fab Fx.fa90_0 rfl rfl) rfl rfl rfl F9 s4 fun q10 F10 => ?_
    refine hd_take (i := 2) rfl (by kernel_rfl) (by kernel_rfl) (by kernel_rfl) (fun _ hC => ex_ld Fx.nag3 rfl (hC.blk_cell (.head _) rfl)) rfl rfl rfl F10 s4 fun q12 F11 => ?_
    refine hd_take (i := 3) rfl (by kernel_rfl) (by kernel_rfl) (by kernel_rfl) (fun _ hC => ex_fab Fx.fa90_1 rfl rfl) rfl rfl rfl F11 s4 fun q13 F13 => ?_
    refine hd_take (i := 4) rfl (by kernel_rfl) (by kernel_rfl) (by kernel_rfl) (fun _ hC => ex_ld Fx.nag5 rfl (hC.blk_cell (.head _) rfl)) rfl rfl rfl F13 s4 fun q14 F14 => ?_
    refine hd_one (i := 5) rfl (by kernel_rfl) ?_
    refine st_call (args := [.tmp 22]) F14 Fx.fn53 rfl (code_Size_c (a0 := a0.Op)   hx1) rfl fun v1 w2 q16 hS1 F15 => ?_
    obtain ⟨rfl, hq1⟩ := hS1
    have s5 := s3.add hq1
    have s6 : SL w [] _ [Blk g9 90 [.int .i64 a0.At, .int .u8 (a0.Op.toNat : Int), .int .i64 a0.A, .int .i64 a0.B]] := s5.drop
    refine kq_end ⟨s6, ?_⟩
    refine hd_one (i := 6) rfl (by kernel_rfl) ?_
    refine st_op F15 (ex_add rfl rfl) rfl rfl rfl fun q17 F17 => ?_
    have s7 : SL w [] _ [Blk g9 90 [.int .i64 a0.At, .int .u8 (a0.Op.toNat : Int), .int .i64 a0.A, .int .i64 a0.B]] := s5.drop
    refine kq_end ⟨s7, ?_⟩
    refine hd_one (i := 7) rfl (by kernel_rfl) ?_
    refine st_mapset (k := wr (a0.At + x1)) (u := 1) F17 s5 Try.underlying109 Fx.key3 rfl rfl rfl fun w3 q18 F18 s8 => ?_
    have s9 : SL w [] _ [Blk g9 90 [.int .i64 a0.At, .int .u8 (a0.Op.toNat : Int), .int .i64 a0.A, .int .i64 a0.B]] := s8.drop
    refine kq_end ⟨s9, ?_⟩
    refine hd_done (by kernel_rfl) ?_
    refine then_n <| wp_seq <| wp_seq <| wp_reg ?_
    obtain ⟨x2, hx2, H⟩ := bind_ok H
    refine st_pr F18 (PR.op (ex_fab Fx.fa90_1 rfl rfl) <| PR.op (ex_ld Fx.nag5 rfl (s8.blk_cell (.tail _ <| .head _) rfl)) <| PR.nil) fun q19 F19 => ?_
    refine st_call (args := [.tmp 26]) F19 Fx.fn55 rfl (code_Jumps_c (a0 := a0.Op)   hx2) rfl fun v2 w4 q20 hS2 F20 => ?_
    obtain ⟨rfl, hq2⟩ := hS2
    have s10 := s8.add hq2
    refine st_end <| then_n ?_
    refine wp_if F20 rfl (fun hb2 => ?_) (fun hb2 => ?_)
    ·replace H := ite_t hb2 H
     refine wp_reg ?_
     refine st_pr F20 (PR.op (ex_move rfl) <| PR.op (ex_fab Fx.fa90_2 rfl rfl) <| PR.op (ex_ld Fx.nag3 rfl (s10.blk_cell (.tail _ <| .head _) rfl)) <| PR.nil) fun q21 F21 => ?_
     refine st_mapset (k := a0.A) (u := 1) F21 s10 Try.underlying109 Fx.key3 rfl rfl rfl fun w5 q22 F22 s11 => ?_
     refine st_end <| then_n <| wp_seq <| wp_reg ?_
     obtain ⟨x3, hx3, H⟩ := bind_ok H
     refine st_pr F22 (PR.op (ex_move rfl) <| PR.nil) fun q23 F23 => ?_
     have s12 := s11
     obtain ⟨G0, hs0, hF0, hG0, hc0⟩ := SL.open_ (ps := [Mp (Value.int .i64) (Value.int .i64) g0 (mset (mset ([] : List (Int × Int)) (wr (a0.At + x1)) 1) a0.A 1)]) (rest := [Blk g9 90 [.int .i64 a0.At, .int .u8 (a0.Op.toNat : Int), .int .i64 a0.A, .int .i64 a0.B]]) s12
     refine st_call (args := [.tmp 31]) F23 Fx.fn114 rfl (flow_rising_int_c (a0 := (mset (mset ([] : List (Int × Int)) (wr (a0.At + x1)) 1) a0.A 1)) hs0  hx3) rfl fun v3 w6 q24 hS3 F24 => ?_
     obtain ⟨_, rfl, hq3⟩ := hS3
     have s14 := hc0 _ _ hq3
     refine st_pr F24 (PR.op (ex_asg rfl) <| PR.nil) fun q25 F25 => ?_
     refine st_end <| then_n ?_
     obtain rfl := some_ok H
     refine wp_ret ?_
     refine ret_gen (rs := [.tmp 2]) (vs := [v3]) F25 (by rfl) ⟨_, _, rfl, RV.tmp rfl, rfl⟩ ⟨_, rfl, ⟨v3, rfl, s14.drop.f1.drop⟩⟩
    ·replace H := ite_f hb2 H
     refine wp_skip <| then_n <| wp_seq <| wp_reg ?_
     obtain ⟨x4, hx4, H⟩ := bind_ok H
     refine st_pr F20 (PR.op (ex_move rfl) <| PR.nil) fun q26 F26 => ?_
     have s15 := s10
     obtain ⟨G1, hs1, hF1, hG1, hc1⟩ := SL.open_ (ps := [Mp (Value.int .i64) (Value.int .i64) g0 (mset ([] : List (Int × Int)) (wr (a0.At + x1)) 1)]) (rest := [Blk g9 90 [.int .i64 a0.At, .int .u8 (a0.Op.toNat : Int), .int .i64 a0.A, .int .i64 a0.B]]) s15
     refine st_call (args := [.tmp 31]) F26 Fx.fn114 rfl (flow_rising_int_c (a0 := (mset ([] : List (Int × Int)) (wr (a0.At + x1)) 1)) hs1  hx4) rfl fun v4 w7 q27 hS4 F27 => ?_
     obtain ⟨_, rfl, hq4⟩ := hS4
     have s16 := hc1 _ _ hq4
     refine st_pr F27 (PR.op (ex_asg rfl) <| PR.nil) fun q28 F28 => ?_
     refine st_end <| then_n ?_
     obtain rfl := some_ok H
     refine wp_ret ?_
     refine ret_gen (rs := [.tmp 2]) (vs := [v4]) F28 (by rfl) ⟨_, _, rfl, RV.tmp rfl, rfl⟩ ⟨_, rfl, ⟨v4, rfl, s16.drop.f1.drop⟩⟩
   ·replace H := ite_f hb1 H
    refine wp_skip <| then_n <| wp_seq <| wp_seq <| wp_reg ?_
    obtain ⟨x5, hx5, H⟩ := bind_ok H
    refine st_pr F8 (PR.op (ex_fab Fx.fa90_1 rfl rfl) <| PR.op (ex_ld Fx.nag5 rfl (s2.blk_cell (.tail _ <| .head _) rfl)) <| PR.nil) fun q29 F29 => ?_
    refine st_call (args := [.tmp 26]) F29 Fx.fn55 rfl (code_Jumps_c (a0 := a0.Op)   hx5) rfl fun v5 w8 q30 hS5 F30 => ?_
    obtain ⟨rfl, hq5⟩ := hS5
    have s17 := s2.add hq5
    refine st_end <| then_n ?_
    refine wp_if F30 rfl (fun hb3 => ?_) (fun hb3 => ?_)
    ·replace H := ite_t hb3 H
     refine wp_reg ?_
     refine st_pr F30 (PR.op (ex_move rfl) <| PR.op (ex_fab Fx.fa90_2 rfl rfl) <| PR.op (ex_ld Fx.nag3 rfl (s17.blk_cell (.tail _ <| .head _) rfl)) <| PR.nil) fun q31 F31 => ?_
     refine st_mapset (k := a0.A) (u := 1) F31 s17 Try.underlying109 Fx.key3 rfl rfl rfl fun w9 q32 F32 s18 => ?_
     refine st_end <| then_n <| wp_seq <| wp_reg ?_
     obtain ⟨x6, hx6, H⟩ := bind_ok H
     refine st_pr F32 (PR.op (ex_move rfl) <| PR.nil) fun q33 F33 => ?_
     have s19 := s18
     obtain ⟨G2, hs2, hF2, hG2, hc2⟩ := SL.open_ (ps := [Mp (Value.int .i64) (Value.int .i64) g0 (mset ([] : List (Int × Int)) a0.A 1)]) (rest := [Blk g9 90 [.int .i64 a0.At, .int .u8 (a0.Op.toNat : Int), .int .i64 a0.A, .int .i64 a0.B]]) s19
     refine st_call (args := [.tmp 31]) F33 Fx.fn114 rfl (flow_rising_int_c (a0 := (mset ([] : List (Int × Int)) a0.A 1)) hs2  hx6) rfl fun v6 w11 q34 hS6 F34 => ?_
     obtain ⟨_, rfl, hq6⟩ := hS6
     have s20 := hc2 _ _ hq6
     refine st_pr F34 (PR.op (ex_asg rfl) <| PR.nil) fun q35 F35 => ?_
     refine st_end <| then_n ?_
     obtain rfl := some_ok H
     refine wp_ret ?_
     refine ret_gen (rs := [.tmp 2]) (vs := [v6]) F35 (by rfl) ⟨_, _, rfl, RV.tmp rfl, rfl⟩ ⟨_, rfl, ⟨v6, rfl, s20.drop.f1.drop⟩⟩
    ·replace H := ite_f hb3 H
     refine wp_skip <| then_n <| wp_seq <| wp_reg ?_
     obtain ⟨x7, hx7, H⟩ := bind_ok H
     refine st_pr F30 (PR.op (ex_move rfl) <| PR.nil) fun q36 F36 => ?_
     have s21 := s17
     obtain ⟨G3, hs3, hF3, hG3, hc3⟩ := SL.open_ (ps := [Mp (Value.int .i64) (Value.int .i64) g0 ([] : List (Int × Int))]) (rest := [Blk g9 90 [.int .i64 a0.At, .int .u8 (a0.Op.toNat : Int), .int .i64 a0.A, .int .i64 a0.B]]) s21
     refine st_call (args := [.tmp 31]) F36 Fx.fn114 rfl (flow_rising_int_c (a0 := ([] : List (Int × Int))) hs3  hx7) rfl fun v7 w12 q37 hS7 F37 => ?_
     obtain ⟨_, rfl, hq7⟩ := hS7
     have s22 := hc3 _ _ hq7
     refine st_pr F37 (PR.op (ex_asg rfl) <| PR.nil) fun q38 F38 => ?_
     refine st_end <| then_n ?_
     obtain rfl := some_ok H
     refine wp_ret ?_
     refine ret_gen (rs := [.tmp 2]) (vs := [v7]) F38 (by rfl) ⟨_, _, rfl, RV.tmp rfl, rfl⟩ ⟨_, rfl, ⟨v7, rfl, s22.drop.f1.drop⟩⟩
-- The walk of proviso/flow.Reach.
theorem flow_Reach_c {w : World} {v0 : Value} {a0 : List S_api_Instr} {a1 : Int} {r : (List Int)} (hr0 : Rd T_api_Instr w [] v0 a0) (H : flow_Reach a0 a1 = some r) :
  Calls Try.prog 94 #[v0, .int .i64 a1] w (Ret fun u_ w_ => ∃ u0 : Value, u_ = u0 ∧ SL w [] w_ [Sl (Ty.int .i64) u0 r]) := by
 have s0 : SL w [] w [] := SL.init0 w
 refine call_enter Try.func94 rfl Try.ntmps94 (Nat.le_of_ble_eq_true rfl) (args := [v0, .int .i64 a1]) fun q0 F0 => ?_
 unfold flow_Reach at H
 refine wp_seq <| wp_reg ?_
 refine st_pr F0 (PR.op (ex_asg rfl) <| PR.nil) fun q3 F4 => ?_
 refine st_end <| then_n <| wp_seq <| wp_reg ?_
 obtain ⟨x20, hx21, H⟩ := bind_ok H
 refine st_pr F4 (PR.op (ex_move rfl) <| PR.nil) fun q22 F23 => ?_
 refine st_call (args := [.tmp 11]) F23 Fx.fn54 rfl (flow_addresses_c (a0 := a0)  (hr0.pass0 s0) hx21) rfl fun v24 w25 q26 hS28 F27 => ?_
 obtain ⟨g31, rfl, hq30⟩ := hS28
 have s29 := s0.add hq30
 refine st_pr F27 (PR.op (ex_asg rfl) <| PR.nil) fun q33 F34 => ?_
 refine st_end <| then_n <| wp_seq <| wp_reg ?_
 refine st_mkmap (Value.int .i64) (Value.int .i64) F34 s29 rfl fun g43 w44 q45 F46 s47 => ?_
 refine st_pr F46 (PR.op (ex_asg rfl) <| PR.nil) fun q49 F50 => ?_
 refine st_end <| then_n <| wp_seq <| wp_reg ?_
 refine st_pr F50 (PR.op (ex_move rfl) <| PR.nil) fun q61 F62 => ?_
 refine st_bslice (parts := [(0, .tmp 14)]) (Flat.int .i64) ([a1] : List Int) F62 s47 Fx.sl57 rfl (by decide) rfl rfl rfl (by simp [Value.cells]) rfl rfl rfl fun v63 w64 q65 F66 s67 => ?_
 refine st_pr F66 (PR.op (ex_asg rfl) <| PR.nil) fun q69 F70 => ?_
 refine st_end <| then_n <| wp_seq ?_
 obtain ⟨o0, H0, R0⟩ := bind_ok H
 clear H
 refine wp_cutn (fun a w_ => Fr a 55 [(6, .map (some g43))] ∧ SL w [] w_ [Mp (Value.int .i64) (Value.int .i64) g43 o0]) ?_ ?_
 ·have H := H0
  refine wp_block ?_
  refine wp_lp (flow_Reach_b0 a0 x20) (fun s1 a w_ => ∃ v1 : Value, Fr a 55 [(0, v0), (5, .map (some g31)), (6, .map (some g43)), (7, v1)] ∧ SL w [] w_ [Mp (Value.int .i64) (Value.int .i64) g43 s1.1, Mp (Value.int .i64) (Value.int .i64) g31 x20, Sl (Ty.int .i64) v1 s1.2]) H ?_ ?_
  ·exact ⟨v63, F70.sub ⟨rfl, rfl, rfl, rfl, trivial⟩, s67.f2.f2⟩
  ·intro s1 q1 w0 hI0 o1 H hr
   obtain ⟨v1, F1, s2⟩ := hI0
   replace H : flow_Reach_b0 a0 x20 s1 = some o1 := H
   unfold flow_Reach_b0 at H
   refine wp_seq <| wp_seq <| wp_reg ?_
   refine st_pr F1 (PR.op (ex_move rfl) <| PR.op (ex_len rfl Try.underlying57 (formL (s2.own_rd (.tail _ <| .tail _ <| .head _)))) <| PR.op (ex_gt rfl rfl) <| PR.nil) fun q2 F2 => ?_
   refine st_end <| then_n ?_
   refine wp_if F2 rfl (fun hb0 => ?_) (fun hb0 => ?_)
   ·replace H := ite_t hb0 H
    refine wp_skip <| then_n <| wp_block <| wp_seq <| wp_reg ?_
    obtain ⟨x0, hx0, H⟩ := bind_ok H
    obtain ⟨a2, hi0, he0⟩ := own_idx (Flat.int .i64) s2 (.tail _ <| .tail _ <| .head _) Fx.sl57 rfl hx0
    refine st_pr F2 (PR.op (ex_move rfl) <| PR.op (ex_move rfl) <| PR.op (ex_len rfl Try.underlying57 (formL (s2.own_rd (.tail _ <| .tail _ <| .head _)))) <| PR.op (ex_sub rfl rfl) <| PR.op (hi0 _ _ _ _ _ _ _ _ _ _ rfl rfl) <| PR.op (ex_ld Fx.nag3 rfl (Cells.at_ (SL.elcells (Flat.int .i64) s2 (.tail _ <| .tail _ <| .head _) he0 hx0) (o := 0) rfl)) <| PR.op (ex_asg rfl) <| PR.nil) fun q4 F3 => ?_
    refine st_end <| then_n <| wp_seq <| wp_reg ?_
    obtain ⟨x1, hx1, H⟩ := bind_ok H
    refine st_pr F3 (PR.op (ex_move rfl) <| PR.op (ex_move rfl) <| PR.op (ex_len rfl Try.underlying57 (formL (s2.own_rd (.tail _ <| .tail _ <| .head _)))) <| PR.op (ex_sub rfl rfl) <| PR.nil) fun q5 F5 => ?_
    obtain ⟨v2, hs0, s3⟩ := SL.cutown s2.f2 Fx.sl57 rfl hx1 none (some (wr ((s1.2.length : Int) - 1))) (.inr ⟨rfl, rfl⟩) (.inl rfl)
    refine st_op F5 (hs0 _ _ _ _ _ .i64 .i64 _ _ _ _ _ rfl trivial rfl) rfl rfl rfl fun q6 F6 => ?_
    refine st_pr F6 (PR.op (ex_asg rfl) <| PR.nil) fun q7 F7 => ?_
    refine st_end <| then_n <| wp_seq <| wp_reg ?_
    refine st_pr F7 (PR.op (ex_move rfl) <| PR.op (ex_move rfl) <| PR.op (ex_lookup2 (k := x0) (z0 := (0 : Int)) s3 (.tail _ <| .tail _ <| .head _) Try.underlying109 Fx.key3 Fx.mz3 rfl rfl) <| PR.op (ex_move rfl) <| PR.op (ex_extract (v := .int .i64 ((mget x20 x0).getD (0 : Int))) rfl rfl) <| PR.op (ex_extract (v := .bool ((mget x20 x0).isSome)) rfl rfl) <| PR.op (ex_asg rfl) <| PR.op (ex_asg rfl) <| PR.nil) fun q8 F8 => ?_
    refine st_end <| then_n <| wp_seq <| wp_seq <| wp_reg ?_
    refine st_pr F8 (PR.op (ex_move rfl) <| PR.op (ex_not rfl) <| PR.op (ex_move rfl) <| PR.nil) fun q9 F9 => ?_
    refine bool_split (!((mget x20 x0).isSome)) (fun hb1 => ?_) (fun hb1 => ?_)
    ·replace H := ite_t hb1 H
     refine st_gskip F9 rfl rfl (look_b rfl hb1) Bool.noConfusion rfl rfl fun q10 F10 => ?_
     refine st_gskip F10 rfl rfl (look_b rfl hb1) Bool.noConfusion rfl rfl fun q11 F11 => ?_
     refine st_gskip F11 rfl rfl (look_b rfl hb1) Bool.noConfusion rfl rfl fun q12 F12 => ?_
     refine st_gskip F12 rfl rfl (look_b rfl hb1) Bool.noConfusion rfl rfl fun q13 F13 => ?_
     refine st_pr F13 (PR.op (ex_pick_t (ev_b rfl hb1) rfl) <| PR.nil) fun q14 F14 => ?_
     refine st_end <| then_n ?_
     refine wp_if_t F14 rfl ?_
     refine wp_exit <| then_x <| blk_hit ?_
     obtain rfl := some_ok H
     refine then_n ?_
     exact ⟨_, rfl, v2, F14.sub ⟨rfl, rfl, rfl, rfl, trivial⟩, s3.f2.f2⟩
    ·replace H := ite_f hb1 H
     refine st_gop F9 rfl rfl (look_b rfl hb1) (ex_move rfl) rfl rfl fun q15 F15 => ?_
     refine st_gop F15 rfl rfl (look_b rfl hb1) (ex_move rfl) rfl rfl fun q16 F16 => ?_
     refine st_gop F16 rfl rfl (look_b rfl hb1) (ex_lookup (k := x0) (z0 := (0 : Int)) s3 (.tail _ <| .head _) Try.underlying109 Fx.key3 Fx.mz3 rfl rfl) rfl rfl fun q17 F17 => ?_
     refine st_gop F17 rfl rfl (look_b rfl hb1) (ex_gt rfl rfl) rfl rfl fun q18 F18 => ?_
     refine st_pr F18 (PR.op (ex_pick_f (ev_b rfl hb1) rfl) <| PR.nil) fun q19 F19 => ?_
     refine st_end <| then_n ?_
     refine wp_if F19 rfl (fun hb2 => ?_) (fun hb2 => ?_)
     ·replace H := ite_t hb2 H
      refine wp_exit <| then_x <| blk_hit ?_
      obtain rfl := some_ok H
      refine then_n ?_
      exact ⟨_, rfl, v2, F19.sub ⟨rfl, rfl, rfl, rfl, trivial⟩, s3.f2.f2⟩
     ·replace H := ite_f hb2 H
      refine wp_skip <| then_n <| wp_seq <| wp_reg ?_
      refine st_pr F19 (PR.op (ex_move rfl) <| PR.op (ex_move rfl) <| PR.nil) fun q20 F20 => ?_
      refine st_mapset (k := x0) (u := 1) F20 s3.f1 Try.underlying109 Fx.key3 rfl rfl rfl fun w1 q21 F21 s4 => ?_
      refine st_end <| then_n <| wp_reg ?_
      obtain ⟨x2, hx2, H⟩ := bind_ok H
      obtain ⟨a3, hi1, hc0⟩ := idxL F_api_Instr (rdL hr0 s4) Fx.sl67 rfl hx2
      obtain ⟨x3, hx3, H⟩ := bind_ok H
      refine st_pr F21 (PR.op (ex_move rfl) <| PR.op (ex_move rfl) <| PR.op (ex_move rfl) <| PR.op (hi1 _ _ _ _ _ _ _ _ _ _ rfl rfl) <| PR.op (ex_ldagg Fx.agg90 rfl hc0 rfl) <| PR.nil) fun q23 F22 => ?_
      refine st_call (args := [.tmp 50]) F22 Fx.fn113 rfl (flow_Next_c (a0 := x2)   hx3) rfl fun v3 w2 q24 hS0 F24 => ?_
      obtain ⟨_, rfl, hq0⟩ := hS0
      have s5 := s4.add hq0
      obtain ⟨x4, hx4, H⟩ := bind_ok H
      have s6 := s5.f2
      obtain ⟨_, hr_⟩ := (s6.own_rd (.tail _ <| .head _))
      refine st_append_rd (Flat.int .i64) F24 s6 Fx.sl57 rfl rfl rfl rfl hr_ rfl rfl hx4 rfl fun v4 w3 q25 F25 s7 => ?_
      have s1801' := s7.f1.drop
      refine st_pr F25 (PR.op (ex_asg rfl) <| PR.nil) fun q27 F26 => ?_
      refine st_end ?_
      refine blk_n ?_
      obtain rfl := some_ok H
      refine then_n ?_
      exact ⟨_, rfl, v4, F26.sub ⟨rfl, rfl, rfl, rfl, trivial⟩, s1801'.f2.f2⟩
   ·replace H := ite_f hb0 H
    refine wp_exit <| then_x <| then_x <| blk_hit ?_
    obtain rfl := some_ok H
    obtain rfl := hr _ rfl
    refine then_n ?_
    exact ⟨F2.sub ⟨rfl, trivial⟩, s2.f1.drop.f1.drop⟩
 ·intro q28 w4 hJ
  obtain ⟨F28, s8⟩ := hJ
  have H := R0
  clear R0 H0
  refine then_n <| wp_seq <| wp_reg ?_
  obtain ⟨x5, hx5, H⟩ := bind_ok H
  refine st_pr F28 (PR.op (ex_move rfl) <| PR.nil) fun q29 F29 => ?_
  have s9 := s8
  obtain ⟨G0, hs1, hF0, hG0, hc1⟩ := SL.open_ (ps := [Mp (Value.int .i64) (Value.int .i64) g43 o0]) (rest := []) s9
  refine st_call (args := [.tmp 53]) F29 Fx.fn114 rfl (flow_rising_int_c (a0 := o0) hs1  hx5) rfl fun v5 w5 q30 hS1 F30 => ?_
  obtain ⟨_, rfl, hq1⟩ := hS1
  have s10 := hc1 _ _ hq1
  refine st_pr F30 (PR.op (ex_asg rfl) <| PR.nil) fun q31 F31 => ?_
  refine st_end <| then_n ?_
  obtain rfl := some_ok H
  refine wp_ret ?_
  refine ret_gen (rs := [.tmp 4]) (vs := [v5]) F31 (by rfl) ⟨_, _, rfl, RV.tmp rfl, rfl⟩ ⟨_, rfl, ⟨v5, rfl, s10.drop⟩⟩
-- The walk of proviso/opt.left.
theorem opt_left_c {w : World} {v0 : Value} {a0 : List S_opt_item} {r : (List S_opt_item)} (hr0 : Rd T_opt_item w [] v0 a0) (H : opt_left a0 = some r) :
  Calls Try.prog 95 #[v0] w (Ret fun u_ w_ => ∃ u0 : Value, u_ = u0 ∧ SL w [] w_ [Sl T_opt_item u0 r]) := by
 have s0 : SL w [] w [] := SL.init0 w
 refine call_enter Try.func95 rfl Try.ntmps95 (Nat.le_of_ble_eq_true rfl) (args := [v0]) fun q0 F0 => ?_
 unfold opt_left at H
 refine wp_seq <| wp_reg ?_
 refine st_pr F0 (PR.op (ex_asg rfl) <| PR.nil) fun q3 F4 => ?_
 refine st_end <| then_n <| wp_seq <| wp_reg ?_
 obtain ⟨x17, hx18, H⟩ := bind_ok H
 refine st_pr F4 (PR.op (ex_move rfl) <| PR.op (ex_len rfl Try.underlying94 (formL (rdL hr0 s0))) <| PR.op (ex_add rfl rfl) <| PR.nil) fun q19 F20 => ?_
 refine st_make (Flat.int .i64) (0 : Int) F20 s0 Fx.sl57 rfl rfl Fx.zero3 rfl rfl rfl hx18 rfl fun v21 w22 q23 F24 s25 => ?_
 refine st_pr F24 (PR.op (ex_asg rfl) <| PR.nil) fun q27 F28 => ?_
 refine st_end <| then_n <| wp_seq <| wp_reg ?_
 refine st_pr F28 (PR.op (ex_asg rfl) <| PR.nil) fun q31 F32 => ?_
 refine st_end <| then_n <| wp_seq <| wp_seq <| wp_reg ?_
 refine st_pr F32 (PR.op (ex_move rfl) <| PR.op (ex_len rfl Try.underlying94 (formL (rdL hr0 s25))) <| PR.op (ex_move rfl) <| PR.nil) fun q1 F1 => ?_
 refine st_end <| then_n ?_
 obtain ⟨o0, H0, R0⟩ := bind_ok H
 clear H
 refine wp_cutn (fun a w_ => ∃ v1 : Value, Fr a 56 [(0, v0), (3, v1), (4, .int .i64 o0.2)] ∧ SL w [] w_ [Sl (Ty.int .i64) v1 o0.1]) ?_ ?_
 ·have H := H0
  refine wp_block ?_
  refine wp_lp (opt_left_b0 a0) (fun s1 a w_ => ∃ v2 : Value, Fr a 56 [(0, v0), (3, v2), (4, .int .i64 s1.2.1), (14, v0), (15, .int .i64 (a0.length : Int)), (16, .int .i64 s1.2.2)] ∧ SL w [] w_ [Sl (Ty.int .i64) v2 s1.1]) H ?_ ?_
  ·exact ⟨v21, F1.sub ⟨rfl, rfl, rfl, rfl, rfl, rfl, trivial⟩, s25⟩
  ·intro s1 q2 w0 hI0 o1 H hr
   obtain ⟨v2, F2, s2⟩ := hI0
   replace H : opt_left_b0 a0 s1 = some o1 := H
   unfold opt_left_b0 at H
   refine wp_seq <| wp_reg ?_
   refine st_pr F2 (PR.op (ex_lt rfl rfl) <| PR.nil) fun q4 F3 => ?_
   refine st_end <| then_n <| wp_seq ?_
   refine wp_if F3 rfl (fun hb0 => ?_) (fun hb0 => ?_)
   ·replace H := ite_t hb0 H
    refine wp_skip <| then_n <| wp_seq <| wp_block <| wp_seq <| wp_reg ?_
    obtain ⟨x0, hx0, H⟩ := bind_ok H
    obtain ⟨a1, hi0, hc0⟩ := idxL F_opt_item (rdL hr0 s2) Fx.sl94 rfl hx0
    refine st_pr F3 (PR.op (ex_move rfl) <| PR.op (hi0 _ _ _ _ _ _ _ _ _ _ rfl rfl) <| PR.op (ex_ldagg Fx.agg121 rfl hc0 rfl) <| PR.nil) fun q5 F5 => ?_
    refine st_alloc F5 s2 Fx.zero121 rfl rfl fun g0 w1 q6 F6 s3 => ?_
    refine st_pr F6 (PR.op (ex_asg rfl) <| PR.nil) fun q7 F7 => ?_
    have s4 := s3
    refine st_storea F7 s4 rfl rfl Fx.sz121 (one_cons rfl (one_cons rfl (one_cons rfl (one_cons rfl (one_cons rfl (one_cons rfl one_nil)))))) (Nat.le_of_ble_eq_true rfl) fun w2 q8 F8 s5 => ?_
    replace s5 : SL w [] w2 [Blk g0 121 [.int .i64 x0.in_.At, .int .u8 (x0.in_.Op.toNat : Int), .int .i64 x0.in_.A, .int .i64 x0.in_.B, .int .i64 x0.to, .bool x0.gone], Sl (Ty.int .i64) v2 s1.1] := s5
    refine st_end <| then_n <| wp_seq <| wp_reg ?_
    obtain ⟨x1, hx1, H⟩ := bind_ok H
    obtain ⟨a2, hi1, he0⟩ := own_idx (Flat.int .i64) s5 (.tail _ <| .head _) Fx.sl57 rfl hx1
    refine st_pr F8 (PR.op (ex_move rfl) <| PR.op (ex_move rfl) <| PR.op (ex_move rfl) <| PR.op (hi1 _ _ _ _ _ _ _ _ _ _ rfl rfl) <| PR.nil) fun q9 F9 => ?_
    refine st_setel (y' := s1.2.1) (Flat.int .i64) F9 s5.f1 he0 hx1 rfl rfl (by rfl) Fx.sz3 fun w3 q10 F10 s6 => ?_
    refine st_end <| then_n <| wp_seq <| wp_reg ?_
    refine st_pr F10 (PR.op (ex_fab Fx.fa121_2 rfl rfl) <| PR.op (ex_ld Fx.nag4 rfl (s6.blk_cell (.tail _ <| .head _) rfl)) <| PR.op (ex_not rfl) <| PR.nil) fun q11 F11 => ?_
    refine st_end <| then_n ?_
    refine wp_if F11 rfl (fun hb1 => ?_) (fun hb1 => ?_)
    ·replace H := ite_t hb1 H
     refine wp_reg ?_
     refine st_pr F11 (PR.op (ex_move rfl) <| PR.op (ex_add rfl rfl) <| PR.op (ex_asg rfl) <| PR.nil) fun q12 F12 => ?_
     refine st_end ?_
     refine blk_n ?_
     refine then_n <| wp_reg ?_
     refine st_pr F12 (PR.op (ex_add rfl rfl) <| PR.op (ex_move rfl) <| PR.nil) fun q13 F13 => ?_
     refine st_end ?_
     obtain rfl := some_ok H
     refine then_n ?_
     exact ⟨_, rfl, v2, F13.sub ⟨rfl, rfl, rfl, rfl, rfl, rfl, trivial⟩, s6.f1.drop⟩
    ·replace H := ite_f hb1 H
     refine wp_skip ?_
     refine blk_n ?_
     refine then_n <| wp_reg ?_
     refine st_pr F11 (PR.op (ex_add rfl rfl) <| PR.op (ex_move rfl) <| PR.nil) fun q14 F14 => ?_
     refine st_end ?_
     obtain rfl := some_ok H
     refine then_n ?_
     exact ⟨_, rfl, v2, F14.sub ⟨rfl, rfl, rfl, rfl, rfl, rfl, trivial⟩, s6.f1.drop⟩
   ·replace H := ite_f hb0 H
    refine wp_exit <| then_x <| then_x <| blk_hit ?_
    obtain rfl := some_ok H
    obtain rfl := hr _ rfl
    refine then_n ?_
    exact ⟨v2, F3.sub ⟨rfl, rfl, rfl, trivial⟩, s2⟩
 ·intro q15 w4 hJ
  obtain ⟨v1, F15, s7⟩ := hJ
  have H := R0
  clear R0 H0
  refine then_n <| wp_seq <| wp_reg ?_
  obtain ⟨x2, hx2, H⟩ := bind_ok H
  obtain ⟨a3, hi2, he1⟩ := own_idx (Flat.int .i64) s7 (.head _) Fx.sl57 rfl hx2
  refine st_pr F15 (PR.op (ex_move rfl) <| PR.op (ex_move rfl) <| PR.op (ex_len rfl Try.underlying94 (formL (rdL hr0 s7))) <| PR.op (ex_move rfl) <| PR.op (hi2 _ _ _ _ _ _ _ _ _ _ rfl rfl) <| PR.nil) fun q16 F16 => ?_
  refine st_setel (y' := o0.2) (Flat.int .i64) F16 s7 he1 hx2 rfl rfl (by rfl) Fx.sz3 fun w5 q17 F17 s8 => ?_
  refine st_end <| then_n <| wp_seq <| wp_reg ?_
  refine st_pr F17 (PR.op (ex_asg rfl) <| PR.nil) fun q18 F18 => ?_
  refine st_end <| then_n <| wp_seq <| wp_seq <| wp_reg ?_
  refine st_pr F18 (PR.op (ex_move rfl) <| PR.op (ex_len rfl Try.underlying94 (formL (rdL hr0 s8))) <| PR.op (ex_move rfl) <| PR.nil) fun q20 F19 => ?_
  refine st_end <| then_n ?_
  obtain ⟨o2, H1, R1⟩ := bind_ok H
  clear H
  refine wp_cutn (fun a w_ => ∃ v3 : Value, Fr a 56 [(7, v3)] ∧ SL w [] w_ [Sl T_opt_item v3 o2]) ?_ ?_
  ·have H := H1
   refine wp_block ?_
   refine wp_lp (opt_left_b1 a0 o0) (fun s9 a w_ => ∃ v4 : Value, Fr a 56 [(3, v1), (7, v4), (36, v0), (37, .int .i64 (a0.length : Int)), (38, .int .i64 s9.2)] ∧ SL w [] w_ [Sl (Ty.int .i64) v1 (o0.1.set (a0.length : Int).toNat o0.2), Sl T_opt_item v4 s9.1]) H ?_ ?_
   ·exact ⟨(.slice none 0 0), F19.sub ⟨rfl, rfl, rfl, rfl, rfl, trivial⟩, (SL.nilSl (T := T_opt_item) s8).f1⟩
   ·intro s9 q21 w6 hI1 o3 H hr
    obtain ⟨v4, F21, s10⟩ := hI1
    replace H : opt_left_b1 a0 o0 s9 = some o3 := H
    unfold opt_left_b1 at H
    refine wp_seq <| wp_reg ?_
    refine st_pr F21 (PR.op (ex_lt rfl rfl) <| PR.nil) fun q22 F22 => ?_
    refine st_end <| then_n <| wp_seq ?_
    refine wp_if F22 rfl (fun hb2 => ?_) (fun hb2 => ?_)
    ·replace H := ite_t hb2 H
     refine wp_skip <| then_n <| wp_seq <| wp_block <| wp_seq <| wp_reg ?_
     obtain ⟨x3, hx3, H⟩ := bind_ok H
     obtain ⟨a4, hi3, hc1⟩ := idxL F_opt_item (rdL hr0 s10) Fx.sl94 rfl hx3
     refine st_pr F22 (PR.op (hi3 _ _ _ _ _ _ _ _ _ _ rfl rfl) <| PR.op (ex_ldagg Fx.agg121 rfl hc1 rfl) <| PR.nil) fun q24 F23 => ?_
     refine st_alloc F23 s10 Fx.zero121 rfl rfl fun g1 w7 q25 F25 s11 => ?_
     have s12 := s11
     refine st_storea F25 s12 rfl rfl Fx.sz121 (one_cons rfl (one_cons rfl (one_cons rfl (one_cons rfl (one_cons rfl (one_cons rfl one_nil)))))) (Nat.le_of_ble_eq_true rfl) fun w8 q26 F26 s13 => ?_
     replace s13 : SL w [] w8 [Blk g1 121 [.int .i64 x3.in_.At, .int .u8 (x3.in_.Op.toNat : Int), .int .i64 x3.in_.A, .int .i64 x3.in_.B, .int .i64 x3.to, .bool x3.gone], Sl (Ty.int .i64) v1 (o0.1.set (a0.length : Int).toNat o0.2), Sl T_opt_item v4 s9.1] := s13
     refine st_end <| then_n <| wp_seq <| wp_seq <| wp_reg ?_
     refine st_pr F26 (PR.op (ex_fab Fx.fa121_2 rfl rfl) <| PR.op (ex_ld Fx.nag4 rfl (s13.blk_cell (.head _) rfl)) <| PR.nil) fun q28 F27 => ?_
     refine st_end <| then_n ?_
     refine wp_if F27 rfl (fun hb3 => ?_) (fun hb3 => ?_)
     ·replace H := ite_t hb3 H
      refine wp_exit <| then_x <| blk_hit <| then_n <| wp_reg ?_
      refine st_pr F27 (PR.op (ex_add rfl rfl) <| PR.op (ex_move rfl) <| PR.nil) fun q29 F29 => ?_
      refine st_end ?_
      obtain rfl := some_ok H
      refine then_n ?_
      exact ⟨_, rfl, v4, F29.sub ⟨rfl, rfl, rfl, rfl, rfl, trivial⟩, s13.drop⟩
     ·replace H := ite_f hb3 H
      refine wp_skip <| then_n <| wp_seq <| wp_reg ?_
      obtain ⟨x4, hx4, H⟩ := bind_ok H
      obtain ⟨a5, hi4, he2⟩ := own_idx (Flat.int .i64) s13 (.tail _ <| .head _) Fx.sl57 rfl hx4
      refine st_pr F27 (PR.op (ex_move rfl) <| PR.op (ex_fab Fx.fa121_1 rfl rfl) <| PR.op (ex_ld Fx.nag3 rfl (s13.blk_cell (.head _) rfl)) <| PR.op (hi4 _ _ _ _ _ _ _ _ _ _ rfl rfl) <| PR.op (ex_ld Fx.nag3 rfl (Cells.at_ (SL.elcells (Flat.int .i64) s13 (.tail _ <| .head _) he2 hx4) (o := 0) rfl)) <| PR.op (ex_fab Fx.fa121_1 rfl rfl) <| PR.nil) fun q30 F30 => ?_
      have s14 := s13
      refine st_store F30 s14 rfl rfl Fx.sz3 rfl rfl rfl fun w9 q32 F31 s15 => ?_
      replace s15 : SL w [] w9 [Blk g1 121 [.int .i64 x3.in_.At, .int .u8 (x3.in_.Op.toNat : Int), .int .i64 x3.in_.A, .int .i64 x3.in_.B, .int .i64 x4, .bool x3.gone], Sl (Ty.int .i64) v1 (o0.1.set (a0.length : Int).toNat o0.2), Sl T_opt_item v4 s9.1] := s15
      refine st_end <| then_n <| wp_reg ?_
      refine st_pr F31 (PR.op (ex_move rfl) <| PR.op (ex_ldagg Fx.agg121 rfl (s15.blk_cells (.head _) (o := 0) (ds := [.int .i64 x3.in_.At, .int .u8 (x3.in_.Op.toNat : Int), .int .i64 x3.in_.A, .int .i64 x3.in_.B, .int .i64 x4, .bool x3.gone]) (fun j u hu => by rw [Nat.zero_add]; exact hu)) rfl) <| PR.nil) fun q33 F33 => ?_
      refine st_bslice (parts := [(0, .tmp 51)]) F_opt_item ([(⟨(⟨x3.in_.At, x3.in_.Op, x3.in_.A, x3.in_.B⟩ : S_api_Instr), x4, x3.gone⟩ : S_opt_item)] : List S_opt_item) F33 s15 Fx.sl94 rfl (by decide) rfl rfl rfl (by simp [Value.cells]) rfl rfl rfl fun v5 w10 q34 F34 s16 => ?_
      obtain ⟨x5, hx5, H⟩ := bind_ok H
      have s17 := s16.f3
      obtain ⟨_, hr_⟩ := (s17.own_rd (.tail _ <| .head _))
      refine st_append_rd F_opt_item F34 s17 Fx.sl94 rfl rfl rfl rfl hr_ rfl rfl hx5 rfl fun v6 w11 q35 F35 s18 => ?_
      have s8333' := s18.f1.drop
      refine st_pr F35 (PR.op (ex_asg rfl) <| PR.nil) fun q36 F36 => ?_
      refine st_end ?_
      refine blk_n ?_
      refine then_n <| wp_reg ?_
      refine st_pr F36 (PR.op (ex_add rfl rfl) <| PR.op (ex_move rfl) <| PR.nil) fun q37 F37 => ?_
      refine st_end ?_
      obtain rfl := some_ok H
      refine then_n ?_
      exact ⟨_, rfl, v6, F37.sub ⟨rfl, rfl, rfl, rfl, rfl, trivial⟩, s8333'.f1.drop.f1⟩
    ·replace H := ite_f hb2 H
     refine wp_exit <| then_x <| then_x <| blk_hit ?_
     obtain rfl := some_ok H
     obtain rfl := hr _ rfl
     refine then_n ?_
     exact ⟨v4, F22.sub ⟨rfl, trivial⟩, s10.drop⟩
  ·intro q38 w12 hJ
   obtain ⟨v3, F38, s19⟩ := hJ
   have H := R1
   clear R1 H1
   refine then_n <| wp_seq <| wp_reg ?_
   refine st_pr F38 (PR.op (ex_move rfl) <| PR.op (ex_asg rfl) <| PR.nil) fun q39 F39 => ?_
   refine st_end <| then_n ?_
   obtain rfl := some_ok H
   refine wp_ret ?_
   refine ret_gen (rs := [.tmp 2]) (vs := [v3]) F39 (by rfl) ⟨_, _, rfl, RV.tmp rfl, rfl⟩ ⟨_, rfl, ⟨v3, rfl, s19⟩⟩
-- The walk of proviso/opt.dead.
theorem opt_dead_c {w : World} {FF : List Nat} {v0 : Value} {a0 : List S_opt_item} {r : (List S_opt_item) × Bool} (hst : Star [Sl T_opt_item v0 a0] w FF)  (H : opt_dead a0 = some r) :
  Calls Try.prog 64 #[v0] w (Ret fun u_ w_ => ∃ u0 : Value, u_ = .tuple ⟨[u0, .bool r.2]⟩ ∧ SL w FF w_ [Sl T_opt_item u0 r.1]) := by
 have s0 : SL w FF w [Sl T_opt_item v0 a0] := SL.init w FF hst
 refine call_enter Try.func64 rfl Try.ntmps64 (Nat.le_of_ble_eq_true rfl) (args := [v0]) fun q0 F0 => ?_
 unfold opt_dead at H
 refine wp_seq <| wp_reg ?_
 refine st_pr F0 (PR.op (ex_asg rfl) <| PR.op (ex_asg rfl) <| PR.nil) fun q3 F4 => ?_
 refine st_end <| then_n <| wp_seq <| wp_reg ?_
 obtain ⟨x20, hx21, H⟩ := bind_ok H
 refine st_pr F4 (PR.op (ex_move rfl) <| PR.nil) fun q22 F23 => ?_
 refine st_call (args := [.tmp 10]) F23 Fx.fn46 rfl (opt_laid_c (a0 := a0)  (s0.rd0 (.head _)) hx21) rfl fun v24 w25 q26 hS28 F27 => ?_
 obtain ⟨_, rfl, hq30⟩ := hS28
 have s29 := s0.add hq30
 refine st_pr F27 (PR.op (ex_asg rfl) <| PR.nil) fun q33 F34 => ?_
 refine st_end <| then_n <| wp_seq <| wp_reg ?_
 refine st_mkmap (Value.int .i64) (Value.int .i64) F34 s29 rfl fun g43 w44 q45 F46 s47 => ?_
 refine st_pr F46 (PR.op (ex_asg rfl) <| PR.nil) fun q49 F50 => ?_
 refine st_end <| then_n <| wp_seq <| wp_seq <| wp_reg ?_
 obtain ⟨x0, hx0, H⟩ := bind_ok H
 refine st_pr F50 (PR.op (ex_move rfl) <| PR.nil) fun q1 F1 => ?_
 refine st_call (args := [.tmp 13, .const (.int .i64 0)]) F1 Fx.fn94 rfl (flow_Reach_c (a0 := x20) (a1 := 0)  (s47.rd0 (.tail _ <| .head _)) hx0) rfl fun v1 w0 q2 hS0 F2 => ?_
 obtain ⟨_, rfl, hq0⟩ := hS0
 have s1 := s47.add hq0
 refine st_pr F2 (PR.op (ex_len rfl Try.underlying57 (formL (s1.own_rd (.head _)))) <| PR.op (ex_move rfl) <| PR.nil) fun q4 F3 => ?_
 refine st_end <| then_n ?_
 obtain ⟨o0, H0, R0⟩ := bind_ok H
 clear H
 refine wp_cutn (fun a w_ => Fr a 52 [(0, v0), (4, v24), (5, .map (some g43))] ∧ SL w FF w_ [Mp (Value.int .i64) (Value.int .i64) g43 o0, Sl T_api_Instr v24 x20, Sl T_opt_item v0 a0]) ?_ ?_
 ·have H := H0
  refine wp_block ?_
  refine wp_lp (opt_dead_b0 x0) (fun s2 a w_ => Fr a 52 [(0, v0), (4, v24), (5, .map (some g43)), (14, v1), (15, .int .i64 (x0.length : Int)), (16, .int .i64 s2.2)] ∧ SL w FF w_ [Sl (Ty.int .i64) v1 x0, Mp (Value.int .i64) (Value.int .i64) g43 s2.1, Sl T_api_Instr v24 x20, Sl T_opt_item v0 a0]) H ?_ ?_
  ·exact ⟨F3.sub ⟨rfl, rfl, rfl, rfl, rfl, rfl, trivial⟩, s1⟩
  ·intro s2 q5 w1 hI0 o1 H hr
   obtain ⟨F5, s3⟩ := hI0
   replace H : opt_dead_b0 x0 s2 = some o1 := H
   unfold opt_dead_b0 at H
   refine wp_seq <| wp_reg ?_
   refine st_pr F5 (PR.op (ex_lt rfl rfl) <| PR.nil) fun q6 F6 => ?_
   refine st_end <| then_n <| wp_seq ?_
   refine wp_if F6 rfl (fun hb0 => ?_) (fun hb0 => ?_)
   ·replace H := ite_t hb0 H
    refine wp_skip <| then_n <| wp_seq <| wp_block <| wp_seq <| wp_reg ?_
    obtain ⟨x1, hx1, H⟩ := bind_ok H
    obtain ⟨a2, hi0, he0⟩ := own_idx (Flat.int .i64) s3 (.head _) Fx.sl57 rfl hx1
    refine st_pr F6 (PR.op (hi0 _ _ _ _ _ _ _ _ _ _ rfl rfl) <| PR.op (ex_ld Fx.nag3 rfl (Cells.at_ (SL.elcells (Flat.int .i64) s3 (.head _) he0 hx1) (o := 0) rfl)) <| PR.op (ex_asg rfl) <| PR.nil) fun q7 F7 => ?_
    refine st_end <| then_n <| wp_reg ?_
    refine st_pr F7 (PR.op (ex_move rfl) <| PR.op (ex_move rfl) <| PR.nil) fun q8 F8 => ?_
    refine st_mapset (k := x1) (u := 1) F8 s3.f1 Try.underlying109 Fx.key3 rfl rfl rfl fun w2 q9 F9 s4 => ?_
    refine st_end ?_
    refine blk_n ?_
    refine then_n <| wp_reg ?_
    refine st_pr F9 (PR.op (ex_add rfl rfl) <| PR.op (ex_move rfl) <| PR.nil) fun q10 F10 => ?_
    refine st_end ?_
    obtain rfl := some_ok H
    refine then_n ?_
    exact ⟨_, rfl, F10.sub ⟨rfl, rfl, rfl, rfl, rfl, rfl, trivial⟩, s4.f3.f3.f2.f3⟩
   ·replace H := ite_f hb0 H
    refine wp_exit <| then_x <| then_x <| blk_hit ?_
    obtain rfl := some_ok H
    obtain rfl := hr _ rfl
    refine then_n ?_
    exact ⟨F6.sub ⟨rfl, rfl, rfl, trivial⟩, s3.drop⟩
 ·intro q11 w3 hJ
  obtain ⟨F11, s5⟩ := hJ
  have H := R0
  clear R0 H0
  refine then_n <| wp_seq <| wp_reg ?_
  refine st_pr F11 (PR.op (ex_asg rfl) <| PR.nil) fun q12 F12 => ?_
  refine st_end <| then_n <| wp_seq <| wp_seq <| wp_reg ?_
  refine st_pr F12 (PR.op (ex_move rfl) <| PR.op (ex_len rfl Try.underlying94 (formL (s5.own_rd (.tail _ <| .tail _ <| .head _)))) <| PR.op (ex_move rfl) <| PR.nil) fun q13 F13 => ?_
  refine st_end <| then_n ?_
  obtain ⟨o2, H1, R1⟩ := bind_ok H
  clear H
  refine wp_cutn (fun a w_ => ∃ v2 : Value, Fr a 52 [(0, v2), (8, .bool o2.2)] ∧ SL w FF w_ [Sl T_opt_item v2 o2.1]) ?_ ?_
  ·have H := H1
   refine wp_block ?_
   refine wp_lp (opt_dead_b1 a0 x20 o0) (fun s6 a w_ => ∃ v3 : Value, Fr a 52 [(0, v3), (4, v24), (5, .map (some g43)), (8, .bool s6.2.1), (24, .int .i64 (a0.length : Int)), (25, .int .i64 s6.2.2)] ∧ SL w FF w_ [Mp (Value.int .i64) (Value.int .i64) g43 o0, Sl T_api_Instr v24 x20, Sl T_opt_item v3 s6.1]) H ?_ ?_
   ·exact ⟨v0, F13.sub ⟨rfl, rfl, rfl, rfl, rfl, rfl, trivial⟩, s5⟩
   ·intro s6 q14 w4 hI1 o3 H hr
    obtain ⟨v3, F14, s7⟩ := hI1
    replace H : opt_dead_b1 a0 x20 o0 s6 = some o3 := H
    unfold opt_dead_b1 at H
    refine wp_seq <| wp_reg ?_
    refine st_pr F14 (PR.op (ex_lt rfl rfl) <| PR.nil) fun q15 F15 => ?_
    refine st_end <| then_n <| wp_seq ?_
    refine wp_if F15 rfl (fun hb1 => ?_) (fun hb1 => ?_)
    ·replace H := ite_t hb1 H
     refine wp_skip <| then_n <| wp_seq <| wp_block <| wp_seq <| wp_reg ?_
     refine st_pr F15 (PR.op (ex_move rfl) <| PR.op (ex_asg rfl) <| PR.nil) fun q16 F16 => ?_
     refine st_end <| then_n <| wp_seq <| wp_reg ?_
     obtain ⟨x2, hx2, H⟩ := bind_ok H
     obtain ⟨a3, hi1, he1⟩ := own_idx F_api_Instr s7 (.tail _ <| .head _) Fx.sl67 rfl hx2
     obtain ⟨x3, hx3, H⟩ := bind_ok H
     obtain ⟨a4, hi2, he2⟩ := own_idx F_opt_item s7 (.tail _ <| .tail _ <| .head _) Fx.sl94 rfl hx3
     refine st_pr F16 (PR.op (ex_move rfl) <| PR.op (ex_move rfl) <| PR.op (ex_move rfl) <| PR.op (ex_move rfl) <| PR.op (ex_move rfl) <| PR.op (hi1 _ _ _ _ _ _ _ _ _ _ rfl rfl) <| PR.op (ex_fa Fx.fa90_0 rfl) <| PR.op (ex_ld Fx.nag3 rfl (Cells.at_ (SL.elcells F_api_Instr s7 (.tail _ <| .head _) he1 hx2) (o := 0) rfl)) <| PR.op (ex_lookup (k := x2.At) (z0 := (0 : Int)) s7 (.head _) Try.underlying109 Fx.key3 Fx.mz3 rfl rfl) <| PR.op (ex_eq rfl rfl) <| PR.op (hi2 _ _ _ _ _ _ _ _ _ _ rfl rfl) <| PR.op (ex_fa Fx.fa121_2 rfl) <| PR.nil) fun q17 F17 => ?_
     refine st_setfld (y' := (⟨(⟨x3.in_.At, x3.in_.Op, x3.in_.A, x3.in_.B⟩ : S_api_Instr), x3.to, (((mget o0 x2.At).getD (0 : Int)) == 0)⟩ : S_opt_item)) (o := 5) (ds := [.bool (((mget o0 x2.At).getD (0 : Int)) == 0)]) F_opt_item F17 s7.f2 he2 hx3 rfl rfl (by rfl) Fx.sz4 (by rfl) (one_cons rfl one_nil) (by rfl) fun w5 q18 F18 s8 => ?_
     refine st_end <| then_n <| wp_reg ?_
     refine st_pr F18 (PR.op (ex_move rfl) <| PR.op (ex_move rfl) <| PR.nil) fun q19 F19 => ?_
     refine bool_split s6.2.1 (fun hb2 => ?_) (fun hb2 => ?_)
     ·replace H := ite_t hb2 H
      refine st_gskip F19 rfl rfl (look_b rfl hb2) Bool.noConfusion rfl rfl fun q20 F20 => ?_
      refine st_gskip F20 rfl rfl (look_b rfl hb2) Bool.noConfusion rfl rfl fun q21 F21 => ?_
      refine st_gskip F21 rfl rfl (look_b rfl hb2) Bool.noConfusion rfl rfl fun q23 F22 => ?_
      refine st_gskip F22 rfl rfl (look_b rfl hb2) Bool.noConfusion rfl rfl fun q24 F24 => ?_
      refine st_gskip F24 rfl rfl (look_b rfl hb2) Bool.noConfusion rfl rfl fun q25 F25 => ?_
      refine st_pr F25 (PR.op (ex_pick_t (ev_b rfl hb2) rfl) <| PR.op (ex_asg rfl) <| PR.nil) fun q27 F26 => ?_
      refine st_end ?_
      refine blk_n ?_
      refine then_n <| wp_reg ?_
      refine st_pr F26 (PR.op (ex_add rfl rfl) <| PR.op (ex_move rfl) <| PR.nil) fun q28 F28 => ?_
      refine st_end ?_
      obtain rfl := some_ok H
      refine then_n ?_
      exact ⟨_, rfl, v3, F28.sub ⟨rfl, rfl, rfl, rfl, rfl, rfl, trivial⟩, s8.f2.f2⟩
     ·replace H := ite_f hb2 H
      refine st_gop F19 rfl rfl (look_b rfl hb2) (ex_move rfl) rfl rfl fun q29 F29 => ?_
      refine st_gop F29 rfl rfl (look_b rfl hb2) (ex_move rfl) rfl rfl fun q30 F30 => ?_
      obtain ⟨x4, hx4, H⟩ := bind_ok H
      obtain ⟨a5, hi3, he3⟩ := own_idx F_opt_item s8 (.head _) Fx.sl94 rfl hx4
      refine st_gop F30 rfl rfl (look_b rfl hb2) (hi3 _ _ _ _ _ _ _ _ _ _ rfl rfl) rfl rfl fun q31 F31 => ?_
      refine st_gop F31 rfl rfl (look_b rfl hb2) (ex_fa Fx.fa121_2 rfl) rfl rfl fun q32 F32 => ?_
      refine st_gop F32 rfl rfl (look_b rfl hb2) (ex_ld Fx.nag4 rfl (Cells.at_ (SL.elcells F_opt_item s8 (.head _) he3 hx4) (o := 5) rfl)) rfl rfl fun q34 F33 => ?_
      refine st_pr F33 (PR.op (ex_pick_f (ev_b rfl hb2) rfl) <| PR.op (ex_asg rfl) <| PR.nil) fun q35 F35 => ?_
      refine st_end ?_
      refine blk_n ?_
      refine then_n <| wp_reg ?_
      refine st_pr F35 (PR.op (ex_add rfl rfl) <| PR.op (ex_move rfl) <| PR.nil) fun q36 F36 => ?_
      refine st_end ?_
      obtain rfl := some_ok H
      refine then_n ?_
      exact ⟨_, rfl, v3, F36.sub ⟨rfl, rfl, rfl, rfl, rfl, rfl, trivial⟩, s8.f2.f2⟩
    ·replace H := ite_f hb1 H
     refine wp_exit <| then_x <| then_x <| blk_hit ?_
     obtain rfl := some_ok H
     obtain rfl := hr _ rfl
     refine then_n ?_
     exact ⟨v3, F15.sub ⟨rfl, rfl, trivial⟩, s7.drop.drop⟩
  ·intro q37 w6 hJ
   obtain ⟨v2, F37, s9⟩ := hJ
   have H := R1
   clear R1 H1
   refine then_n <| wp_seq <| wp_reg ?_
   obtain ⟨x5, hx5, H⟩ := bind_ok H
   refine st_pr F37 (PR.op (ex_move rfl) <| PR.nil) fun q38 F38 => ?_
   refine st_call (args := [.tmp 49]) F38 Fx.fn95 rfl (opt_left_c (a0 := o2.1)  (s9.rd0 (.head _)) hx5) rfl fun v4 w7 q39 hS1 F39 => ?_
   obtain ⟨_, rfl, hq1⟩ := hS1
   have s10 := s9.add hq1
   refine st_pr F39 (PR.op (ex_move rfl) <| PR.op (ex_asg rfl) <| PR.op (ex_asg rfl) <| PR.nil) fun q40 F40 => ?_
   refine st_end <| then_n ?_
   obtain rfl := some_ok H
   refine wp_ret ?_
   refine ret_gen (rs := [.tmp 2, .tmp 3]) (vs := [v4, .bool o2.2]) F40 (by rfl) ⟨_, _, rfl, RV.tmp rfl, _, _, rfl, RV.tmp rfl, rfl⟩ ⟨_, rfl, ⟨v4, rfl, s10.f1.drop⟩⟩
-- The walk of proviso/opt.empty.
theorem opt_empty_c {w : World} {FF : List Nat} {v0 : Value} {a0 : List S_opt_item} {r : (List S_opt_item) × Bool} (hst : Star [Sl T_opt_item v0 a0] w FF)  (H : opt_empty a0 = some r) :
  Calls Try.prog 65 #[v0] w (Ret fun u_ w_ => ∃ u0 : Value, u_ = .tuple ⟨[u0, .bool r.2]⟩ ∧ SL w FF w_ [Sl T_opt_item u0 r.1]) := by
 have s0 : SL w FF w [Sl T_opt_item v0 a0] := SL.init w FF hst
 refine call_enter Try.func65 rfl Try.ntmps65 (Nat.le_of_ble_eq_true rfl) (args := [v0]) fun q0 F0 => ?_
 unfold opt_empty at H
 refine wp_seq <| wp_reg ?_
 refine st_pr F0 (PR.op (ex_asg rfl) <| PR.op (ex_asg rfl) <| PR.nil) fun q3 F4 => ?_
 refine st_end <| then_n <| wp_seq <| wp_reg ?_
 refine st_pr F4 (PR.op (ex_asg rfl) <| PR.nil) fun q7 F8 => ?_
 refine st_end <| then_n <| wp_seq <| wp_seq <| wp_reg ?_
 refine st_pr F8 (PR.op (ex_move rfl) <| PR.op (ex_len rfl Try.underlying94 (formL (s0.own_rd (.head _)))) <| PR.op (ex_move rfl) <| PR.nil) fun q1 F1 => ?_
 refine st_end <| then_n ?_
 obtain ⟨o0, H0, R0⟩ := bind_ok H
 clear H
 refine wp_cutn (fun a w_ => ∃ v1 : Value, Fr a 60 [(0, v1), (4, .bool o0.2)] ∧ SL w FF w_ [Sl T_opt_item v1 o0.1]) ?_ ?_
 ·have H := H0
  refine wp_block ?_
  refine wp_lp (opt_empty_b0 a0) (fun s1 a w_ => ∃ v2 : Value, Fr a 60 [(0, v2), (4, .bool s1.2.1), (9, .int .i64 (a0.length : Int)), (10, .int .i64 s1.2.2)] ∧ SL w FF w_ [Sl T_opt_item v2 s1.1]) H ?_ ?_
  ·exact ⟨v0, F1.sub ⟨rfl, rfl, rfl, rfl, trivial⟩, s0⟩
  ·intro s1 q2 w0 hI0 o1 H hr
   obtain ⟨v2, F2, s2⟩ := hI0
   replace H : opt_empty_b0 a0 s1 = some o1 := H
   unfold opt_empty_b0 at H
   refine wp_seq <| wp_reg ?_
   refine st_pr F2 (PR.op (ex_lt rfl rfl) <| PR.nil) fun q4 F3 => ?_
   refine st_end <| then_n <| wp_seq ?_
   refine wp_if F3 rfl (fun hb0 => ?_) (fun hb0 => ?_)
   ·replace H := ite_t hb0 H
    refine wp_skip <| then_n <| wp_seq <| wp_block <| wp_seq <| wp_reg ?_
    refine st_pr F3 (PR.op (ex_move rfl) <| PR.op (ex_asg rfl) <| PR.nil) fun q5 F5 => ?_
    refine st_end <| then_n <| wp_seq <| wp_reg ?_
    obtain ⟨x0, hx0, H⟩ := bind_ok H
    obtain ⟨a1, hi0, he0⟩ := own_idx F_opt_item s2 (.head _) Fx.sl94 rfl hx0
    refine st_pr F5 (PR.op (ex_move rfl) <| PR.op (ex_move rfl) <| PR.op (hi0 _ _ _ _ _ _ _ _ _ _ rfl rfl) <| PR.op (ex_asg rfl) <| PR.nil) fun q6 F6 => ?_
    refine st_end <| then_n <| wp_seq <| wp_reg ?_
    refine st_pr F6 (PR.op (ex_move rfl) <| PR.op (ex_nilcheck rfl) <| PR.op (ex_fa Fx.fa121_1 rfl) <| PR.op (ex_ld Fx.nag3 rfl (Cells.at_ (SL.elcells F_opt_item s2 (.head _) he0 hx0) (o := 4) rfl)) <| PR.op (ex_move rfl) <| PR.op (ex_add rfl rfl) <| PR.op (ex_eq rfl rfl) <| PR.op (ex_asg rfl) <| PR.nil) fun q8 F7 => ?_
    refine st_end <| then_n <| wp_block <| wp_seq ?_
    obtain ⟨o2, H1, R1⟩ := bind_ok H
    clear H
    refine wp_cutn (fun a w_ => Fr a 60 [(0, v2), (4, .bool s1.2.1), (6, .pointer (some a1)), (7, .bool (x0.to == (wr (s1.2.2 + 1)))), (9, .int .i64 (a0.length : Int)), (10, .int .i64 s1.2.2), (23, .bool o2)] ∧ SL w FF w_ [Sl T_opt_item v2 s1.1]) ?_ ?_
    ·have H := H1
     refine wp_seq <| wp_reg ?_
     refine st_pr F7 (PR.op (ex_move rfl) <| PR.op (ex_nilcheck rfl) <| PR.op (ex_fa Fx.fa121_0 rfl) <| PR.op (ex_fae Fx.fa90_1 rfl rfl) <| PR.op (ex_ld Fx.nag5 rfl (Cells.at_ (SL.elcells F_opt_item s2 (.head _) he0 hx0) (o := 1) rfl)) <| PR.op (ex_eq rfl rfl) <| PR.op (ex_asg rfl) <| PR.nil) fun q9 F9 => ?_
     refine st_end <| then_n ?_
     refine wp_if F9 rfl (fun hb1 => ?_) (fun hb1 => ?_)
     ·replace H := ite_t hb1 H
      refine wp_skip ?_
      obtain rfl := some_ok H
      refine then_n ?_
      exact ⟨F9.sub ⟨rfl, rfl, rfl, rfl, rfl, rfl, rfl, trivial⟩, s2⟩
     ·replace H := ite_f hb1 H
      refine wp_reg ?_
      refine st_pr F9 (PR.op (ex_move rfl) <| PR.op (ex_nilcheck rfl) <| PR.op (ex_fa Fx.fa121_0 rfl) <| PR.op (ex_fae Fx.fa90_1 rfl rfl) <| PR.op (ex_ld Fx.nag5 rfl (Cells.at_ (SL.elcells F_opt_item s2 (.head _) he0 hx0) (o := 1) rfl)) <| PR.op (ex_eq rfl rfl) <| PR.op (ex_move rfl) <| PR.nil) fun q10 F10 => ?_
      refine bool_split ((x0.in_.Op.toNat : Int) == 19) (fun hb2 => ?_) (fun hb2 => ?_)
      ·replace H := ite_t hb2 H
       refine st_gop F10 rfl rfl (look_b rfl hb2) (ex_move rfl) rfl rfl fun q11 F11 => ?_
       refine st_pr F11 (PR.op (ex_pick_t (ev_b rfl hb2) rfl) <| PR.op (ex_asg rfl) <| PR.nil) fun q12 F12 => ?_
       refine st_end ?_
       obtain rfl := some_ok H
       refine then_n ?_
       exact ⟨F12.sub ⟨rfl, rfl, rfl, rfl, rfl, rfl, rfl, trivial⟩, s2⟩
      ·replace H := ite_f hb2 H
       refine st_gskip F10 rfl rfl (look_b rfl hb2) Bool.noConfusion rfl rfl fun q13 F13 => ?_
       refine st_pr F13 (PR.op (ex_pick_f (ev_b rfl hb2) rfl) <| PR.op (ex_asg rfl) <| PR.nil) fun q14 F14 => ?_
       refine st_end ?_
       obtain rfl := some_ok H
       refine then_n ?_
       exact ⟨F14.sub ⟨rfl, rfl, rfl, rfl, rfl, rfl, rfl, trivial⟩, s2⟩
    ·intro q15 w1 hJ
     obtain ⟨F15, s3⟩ := hJ
     have H := R1
     clear R1 H1
     refine then_n ?_
     refine wp_if F15 rfl (fun hb3 => ?_) (fun hb3 => ?_)
     ·replace H := ite_t hb3 H
      refine wp_reg ?_
      obtain ⟨x1, hx1, H⟩ := bind_ok H
      refine st_pr F15 (PR.op (ex_move rfl) <| PR.op (ex_nilcheck rfl) <| PR.op (ex_fa Fx.fa121_2 rfl) <| PR.nil) fun q16 F16 => ?_
      refine st_setfld (y' := (⟨(⟨x1.in_.At, x1.in_.Op, x1.in_.A, x1.in_.B⟩ : S_api_Instr), x1.to, true⟩ : S_opt_item)) (o := 5) (ds := [.bool true]) F_opt_item F16 s3 he0 hx1 rfl rfl (by rfl) Fx.sz4 (by rfl) (one_cons rfl one_nil) (by rfl) fun w2 q17 F17 s4 => ?_
      refine st_pr F17 (PR.op (ex_asg rfl) <| PR.nil) fun q18 F18 => ?_
      refine st_end ?_
      refine blk_n ?_
      refine blk_n ?_
      refine then_n <| wp_reg ?_
      refine st_pr F18 (PR.op (ex_add rfl rfl) <| PR.op (ex_move rfl) <| PR.nil) fun q19 F19 => ?_
      refine st_end ?_
      obtain rfl := some_ok H
      refine then_n ?_
      exact ⟨_, rfl, v2, F19.sub ⟨rfl, rfl, rfl, rfl, trivial⟩, s4⟩
     ·replace H := ite_f hb3 H
      refine wp_seq <| wp_reg ?_
      obtain ⟨x2, hx2, H⟩ := bind_ok H
      refine st_pr F15 (PR.op (ex_move rfl) <| PR.op (ex_nilcheck rfl) <| PR.op (ex_fa Fx.fa121_0 rfl) <| PR.op (ex_fae Fx.fa90_1 rfl rfl) <| PR.op (ex_ld Fx.nag5 rfl (Cells.at_ (SL.elcells F_opt_item s3 (.head _) he0 hx2) (o := 1) rfl)) <| PR.op (ex_eq rfl rfl) <| PR.op (ex_move rfl) <| PR.nil) fun q20 F20 => ?_
      refine bool_split ((x2.in_.Op.toNat : Int) == 20) (fun hb4 => ?_) (fun hb4 => ?_)
      ·replace H := ite_t hb4 H
       refine st_gop F20 rfl rfl (look_b rfl hb4) (ex_move rfl) rfl rfl fun q21 F21 => ?_
       refine st_pr F21 (PR.op (ex_pick_t (ev_b rfl hb4) rfl) <| PR.op (ex_asg rfl) <| PR.nil) fun q22 F22 => ?_
       refine st_end <| then_n ?_
       refine wp_if F22 rfl (fun hb5 => ?_) (fun hb5 => ?_)
       ·replace H := ite_t hb5 H
        refine wp_seq <| wp_reg ?_
        obtain ⟨x3, hx3, H⟩ := bind_ok H
        refine st_pr F22 (PR.op (ex_move rfl) <| PR.op (ex_build (vs := [.int .u8 6]) Fx.zero90 Fx.pl90 rfl (cs := [.int .i64 0, .int .u8 6, .int .i64 0, .int .i64 0]) (rfl)) <| PR.op (ex_build (vs := [.agg ⟨[.int .i64 0, .int .u8 6, .int .i64 0, .int .i64 0]⟩]) Fx.zero121 Fx.pl121 rfl (cs := [.int .i64 0, .int .u8 6, .int .i64 0, .int .i64 0, .int .i64 0, .bool false]) (rfl)) <| PR.op (ex_nilcheck rfl) <| PR.nil) fun q23 F23 => ?_
        refine st_setel (y' := (⟨(⟨0, 6, 0, 0⟩ : S_api_Instr), 0, false⟩ : S_opt_item)) F_opt_item F23 s3 he0 hx3 rfl rfl (by rfl) Fx.sz121 fun w3 q24 F24 s5 => ?_
        refine st_end <| then_n <| wp_reg ?_
        refine st_pr F24 (PR.op (ex_asg rfl) <| PR.nil) fun q25 F25 => ?_
        refine st_end ?_
        refine blk_n ?_
        refine blk_n ?_
        refine then_n <| wp_reg ?_
        refine st_pr F25 (PR.op (ex_add rfl rfl) <| PR.op (ex_move rfl) <| PR.nil) fun q26 F26 => ?_
        refine st_end ?_
        obtain rfl := some_ok H
        refine then_n ?_
        exact ⟨_, rfl, v2, F26.sub ⟨rfl, rfl, rfl, rfl, trivial⟩, s5⟩
       ·replace H := ite_f hb5 H
        refine wp_skip ?_
        refine blk_n ?_
        refine blk_n ?_
        refine then_n <| wp_reg ?_
        refine st_pr F22 (PR.op (ex_add rfl rfl) <| PR.op (ex_move rfl) <| PR.nil) fun q27 F27 => ?_
        refine st_end ?_
        obtain rfl := some_ok H
        refine then_n ?_
        exact ⟨_, rfl, v2, F27.sub ⟨rfl, rfl, rfl, rfl, trivial⟩, s3⟩
      ·replace H := ite_f hb4 H
       refine st_gskip F20 rfl rfl (look_b rfl hb4) Bool.noConfusion rfl rfl fun q28 F28 => ?_
       refine st_pr F28 (PR.op (ex_pick_f (ev_b rfl hb4) rfl) <| PR.op (ex_asg rfl) <| PR.nil) fun q29 F29 => ?_
       refine st_end <| then_n ?_
       refine wp_if_f F29 rfl ?_
       refine wp_skip ?_
       refine blk_n ?_
       refine blk_n ?_
       refine then_n <| wp_reg ?_
       refine st_pr F29 (PR.op (ex_add rfl rfl) <| PR.op (ex_move rfl) <| PR.nil) fun q30 F30 => ?_
       refine st_end ?_
       obtain rfl := some_ok H
       refine then_n ?_
       exact ⟨_, rfl, v2, F30.sub ⟨rfl, rfl, rfl, rfl, trivial⟩, s3⟩
   ·replace H := ite_f hb0 H
    refine wp_exit <| then_x <| then_x <| blk_hit ?_
    obtain rfl := some_ok H
    obtain rfl := hr _ rfl
    refine then_n ?_
    exact ⟨v2, F3.sub ⟨rfl, rfl, trivial⟩, s2⟩
 ·intro q31 w4 hJ
  obtain ⟨v1, F31, s6⟩ := hJ
  have H := R0
  clear R0 H0
  refine then_n <| wp_seq <| wp_reg ?_
  obtain ⟨x4, hx4, H⟩ := bind_ok H
  refine st_pr F31 (PR.op (ex_move rfl) <| PR.nil) fun q32 F32 => ?_
  refine st_call (args := [.tmp 57]) F32 Fx.fn95 rfl (opt_left_c (a0 := o0.1)  (s6.rd0 (.head _)) hx4) rfl fun v3 w5 q33 hS0 F33 => ?_
  obtain ⟨_, rfl, hq0⟩ := hS0
  have s7 := s6.add hq0
  refine st_pr F33 (PR.op (ex_move rfl) <| PR.op (ex_asg rfl) <| PR.op (ex_asg rfl) <| PR.nil) fun q34 F34 => ?_
  refine st_end <| then_n ?_
  obtain rfl := some_ok H
  refine wp_ret ?_
  refine ret_gen (rs := [.tmp 2, .tmp 3]) (vs := [v3, .bool o0.2]) F34 (by rfl) ⟨_, _, rfl, RV.tmp rfl, _, _, rfl, RV.tmp rfl, rfl⟩ ⟨_, rfl, ⟨v3, rfl, s7.f1.drop⟩⟩
-- The walk of proviso/opt.led.
theorem opt_led_c {w : World} {v0 : Value} {a0 : List S_opt_item} {r : (List Bool)} (hr0 : Rd T_opt_item w [] v0 a0) (H : opt_led a0 = some r) :
  Calls Try.prog 96 #[v0] w (Ret fun u_ w_ => ∃ u0 : Value, u_ = u0 ∧ SL w [] w_ [Sl Ty.bool u0 r]) := by
 have s0 : SL w [] w [] := SL.init0 w
 refine call_enter Try.func96 rfl Try.ntmps96 (Nat.le_of_ble_eq_true rfl) (args := [v0]) fun q0 F0 => ?_
 unfold opt_led at H
 refine wp_seq <| wp_reg ?_
 refine st_pr F0 (PR.op (ex_asg rfl) <| PR.nil) fun q3 F4 => ?_
 refine st_end <| then_n <| wp_seq <| wp_reg ?_
 obtain ⟨x17, hx18, H⟩ := bind_ok H
 refine st_pr F4 (PR.op (ex_move rfl) <| PR.op (ex_len rfl Try.underlying94 (formL (rdL hr0 s0))) <| PR.nil) fun q19 F20 => ?_
 refine st_make Flat.bool false F20 s0 Fx.sl93 rfl rfl Fx.zero4 rfl rfl rfl hx18 rfl fun v21 w22 q23 F24 s25 => ?_
 refine st_pr F24 (PR.op (ex_asg rfl) <| PR.nil) fun q27 F28 => ?_
 refine st_end <| then_n <| wp_seq <| wp_seq <| wp_reg ?_
 refine st_pr F28 (PR.op (ex_move rfl) <| PR.op (ex_len rfl Try.underlying94 (formL (rdL hr0 s25))) <| PR.op (ex_move rfl) <| PR.nil) fun q1 F1 => ?_
 refine st_end <| then_n ?_
 obtain ⟨o0, H0, R0⟩ := bind_ok H
 clear H
 refine wp_cutn (fun a w_ => ∃ v1 : Value, Fr a 25 [(3, v1)] ∧ SL w [] w_ [Sl Ty.bool v1 o0]) ?_ ?_
 ·have H := H0
  refine wp_block ?_
  refine wp_lp (opt_led_b0 a0) (fun s1 a w_ => ∃ v2 : Value, Fr a 25 [(3, v2), (9, v0), (10, .int .i64 (a0.length : Int)), (11, .int .i64 s1.2)] ∧ SL w [] w_ [Sl Ty.bool v2 s1.1]) H ?_ ?_
  ·exact ⟨v21, F1.sub ⟨rfl, rfl, rfl, rfl, trivial⟩, s25⟩
  ·intro s1 q2 w0 hI0 o1 H hr
   obtain ⟨v2, F2, s2⟩ := hI0
   replace H : opt_led_b0 a0 s1 = some o1 := H
   unfold opt_led_b0 at H
   refine wp_seq <| wp_reg ?_
   refine st_pr F2 (PR.op (ex_lt rfl rfl) <| PR.nil) fun q4 F3 => ?_
   refine st_end <| then_n <| wp_seq ?_
   refine wp_if F3 rfl (fun hb0 => ?_) (fun hb0 => ?_)
   ·replace H := ite_t hb0 H
    refine wp_skip <| then_n <| wp_seq <| wp_block <| wp_seq <| wp_reg ?_
    obtain ⟨x0, hx0, H⟩ := bind_ok H
    obtain ⟨a1, hi0, hc0⟩ := idxL F_opt_item (rdL hr0 s2) Fx.sl94 rfl hx0
    refine st_pr F3 (PR.op (hi0 _ _ _ _ _ _ _ _ _ _ rfl rfl) <| PR.op (ex_ldagg Fx.agg121 rfl hc0 rfl) <| PR.nil) fun q5 F5 => ?_
    refine st_alloc F5 s2 Fx.zero121 rfl rfl fun g0 w1 q6 F6 s3 => ?_
    have s4 := s3
    refine st_storea F6 s4 rfl rfl Fx.sz121 (one_cons rfl (one_cons rfl (one_cons rfl (one_cons rfl (one_cons rfl (one_cons rfl one_nil)))))) (Nat.le_of_ble_eq_true rfl) fun w2 q7 F7 s5 => ?_
    replace s5 : SL w [] w2 [Blk g0 121 [.int .i64 x0.in_.At, .int .u8 (x0.in_.Op.toNat : Int), .int .i64 x0.in_.A, .int .i64 x0.in_.B, .int .i64 x0.to, .bool x0.gone], Sl Ty.bool v2 s1.1] := s5
    refine st_end <| then_n <| wp_seq <| wp_reg ?_
    obtain ⟨x1, hx1, H⟩ := bind_ok H
    refine st_pr F7 (PR.op (ex_fab Fx.fa121_0 rfl rfl) <| PR.op (ex_fab Fx.fa90_1 rfl rfl) <| PR.op (ex_ld Fx.nag5 rfl (s5.blk_cell (.head _) rfl)) <| PR.nil) fun q8 F8 => ?_
    refine st_call (args := [.tmp 17]) F8 Fx.fn55 rfl (code_Jumps_c (a0 := x0.in_.Op)   hx1) rfl fun v3 w3 q9 hS0 F9 => ?_
    obtain ⟨rfl, hq0⟩ := hS0
    have s6 := s5.add hq0
    refine st_end <| then_n ?_
    refine wp_if F9 rfl (fun hb1 => ?_) (fun hb1 => ?_)
    ·replace H := ite_t hb1 H
     refine wp_reg ?_
     obtain ⟨x2, hx2, H⟩ := bind_ok H
     obtain ⟨a2, hi1, he0⟩ := own_idx Flat.bool s6 (.tail _ <| .head _) Fx.sl93 rfl hx2
     refine st_pr F9 (PR.op (ex_move rfl) <| PR.op (ex_fab Fx.fa121_1 rfl rfl) <| PR.op (ex_ld Fx.nag3 rfl (s6.blk_cell (.head _) rfl)) <| PR.op (hi1 _ _ _ _ _ _ _ _ _ _ rfl rfl) <| PR.nil) fun q10 F10 => ?_
     refine st_setel (y' := true) Flat.bool F10 s6.f1 he0 hx2 rfl rfl (by rfl) Fx.sz4 fun w4 q11 F11 s7 => ?_
     refine st_end ?_
     refine blk_n ?_
     refine then_n <| wp_reg ?_
     refine st_pr F11 (PR.op (ex_add rfl rfl) <| PR.op (ex_move rfl) <| PR.nil) fun q12 F12 => ?_
     refine st_end ?_
     obtain rfl := some_ok H
     refine then_n ?_
     exact ⟨_, rfl, v2, F12.sub ⟨rfl, rfl, rfl, rfl, trivial⟩, s7.f1.drop⟩
    ·replace H := ite_f hb1 H
     refine wp_skip ?_
     refine blk_n ?_
     refine then_n <| wp_reg ?_
     refine st_pr F9 (PR.op (ex_add rfl rfl) <| PR.op (ex_move rfl) <| PR.nil) fun q13 F13 => ?_
     refine st_end ?_
     obtain rfl := some_ok H
     refine then_n ?_
     exact ⟨_, rfl, v2, F13.sub ⟨rfl, rfl, rfl, rfl, trivial⟩, s6.drop⟩
   ·replace H := ite_f hb0 H
    refine wp_exit <| then_x <| then_x <| blk_hit ?_
    obtain rfl := some_ok H
    obtain rfl := hr _ rfl
    refine then_n ?_
    exact ⟨v2, F3.sub ⟨rfl, trivial⟩, s2⟩
 ·intro q14 w5 hJ
  obtain ⟨v1, F14, s8⟩ := hJ
  have H := R0
  clear R0 H0
  refine then_n <| wp_seq <| wp_reg ?_
  refine st_pr F14 (PR.op (ex_move rfl) <| PR.op (ex_asg rfl) <| PR.nil) fun q15 F15 => ?_
  refine st_end <| then_n ?_
  obtain rfl := some_ok H
  refine wp_ret ?_
  refine ret_gen (rs := [.tmp 2]) (vs := [v1]) F15 (by rfl) ⟨_, _, rfl, RV.tmp rfl, rfl⟩ ⟨_, rfl, ⟨v1, rfl, s8⟩⟩
-- The walk of proviso/opt.constants$1.
theorem opt_constants_1_s2_c {w : World} {FF : List Nat} {g1 g2 : Nat} {v1_0 v2_0 : Value} {a0 : Int} {a1 : List S_opt_item} {a2 : List Bool} {r : Bool} (hst : Star [Blk g1 94 [v1_0], Sl T_opt_item v1_0 a1, Blk g2 93 [v2_0], Sl Ty.bool v2_0 a2] w FF)  (H : opt_constants_1_s2 a0 a1 a2 = some r) :
  Calls Try.prog 97 #[.int .i64 a0, .pointer (some ⟨g1, 0, none⟩), .pointer (some ⟨g2, 0, none⟩)] w (Ret fun u_ w_ => u_ = .bool r ∧ SL w FF w_ [Blk g1 94 [v1_0], Sl T_opt_item v1_0 a1, Blk g2 93 [v2_0], Sl Ty.bool v2_0 a2]) := by
 have s0 : SL w FF w [Blk g1 94 [v1_0], Sl T_opt_item v1_0 a1, Blk g2 93 [v2_0], Sl Ty.bool v2_0 a2] := SL.init w FF hst
 refine call_enter Try.func97 rfl Try.ntmps97 (Nat.le_of_ble_eq_true rfl) (args := [.int .i64 a0, .pointer (some ⟨g1, 0, none⟩), .pointer (some ⟨g2, 0, none⟩)]) fun q0 F0 => ?_
 unfold opt_constants_1_s2 at H
 refine wp_seq <| wp_reg ?_
 refine st_pr F0 (PR.op (ex_asg rfl) <| PR.nil) fun q3 F4 => ?_
 refine st_end <| then_n <| wp_seq <| wp_reg ?_
 refine st_pr F4 (PR.op (ex_move rfl) <| PR.op (ex_ld Fx.nag94 rfl (s0.blk_cell (.head _) rfl)) <| PR.op (ex_len rfl Try.underlying94 (formL (s0.own_rd (.tail _ <| .head _)))) <| PR.op (ex_lt rfl rfl) <| PR.op (ex_move rfl) <| PR.nil) fun q37 F38 => ?_
 refine bool_split (decide (a0 < (a1.length : Int))) (fun hb39 => ?_) (fun hb39 => ?_)
 ·replace H := ite_t hb39 H
  refine st_gop F38 rfl rfl (look_b rfl hb39) (ex_ld Fx.nag93 rfl (s0.blk_cell (.tail _ <| .tail _ <| .head _) rfl)) rfl rfl fun q40 F41 => ?_
  refine st_gop F41 rfl rfl (look_b rfl hb39) (ex_move rfl) rfl rfl fun q42 F43 => ?_
  obtain ⟨x44, hx45, H⟩ := bind_ok H
  obtain ⟨ad46, hi47, he48⟩ := own_idx Flat.bool s0 (.tail _ <| .tail _ <| .tail _ <| .head _) Fx.sl93 rfl hx45
  refine st_gop F43 rfl rfl (look_b rfl hb39) (hi47 _ _ _ _ _ _ _ _ _ _ rfl rfl) rfl rfl fun q49 F50 => ?_
  refine st_gop F50 rfl rfl (look_b rfl hb39) (ex_ld Fx.nag4 rfl (Cells.at_ (SL.elcells Flat.bool s0 (.tail _ <| .tail _ <| .tail _ <| .head _) he48 hx45) (o := 0) rfl)) rfl rfl fun q51 F52 => ?_
  refine st_gop F52 rfl rfl (look_b rfl hb39) (ex_not rfl) rfl rfl fun q53 F54 => ?_
  refine st_pr F54 (PR.op (ex_pick_t (ev_b rfl hb39) rfl) <| PR.op (ex_asg rfl) <| PR.nil) fun q55 F56 => ?_
  refine st_end <| then_n ?_
  obtain rfl := some_ok H
  refine wp_ret ?_
  refine ret_gen (rs := [.tmp 4]) (vs := [.bool (!x44)]) F56 (by rfl) ⟨_, _, rfl, RV.tmp rfl, rfl⟩ ⟨_, rfl, ⟨rfl, s0⟩⟩
 ·replace H := ite_f hb39 H
  refine st_gskip F38 rfl rfl (look_b rfl hb39) Bool.noConfusion rfl rfl fun q57 F58 => ?_
  refine st_gskip F58 rfl rfl (look_b rfl hb39) Bool.noConfusion rfl rfl fun q59 F60 => ?_
  refine st_gskip F60 rfl rfl (look_b rfl hb39) Bool.noConfusion rfl rfl fun q61 F62 => ?_
  refine st_gskip F62 rfl rfl (look_b rfl hb39) Bool.noConfusion rfl rfl fun q63 F64 => ?_
  refine st_gskip F64 rfl rfl (look_b rfl hb39) Bool.noConfusion rfl rfl fun q65 F66 => ?_
  refine st_pr F66 (PR.op (ex_pick_f (ev_b rfl hb39) rfl) <| PR.op (ex_asg rfl) <| PR.nil) fun q67 F68 => ?_
  refine st_end <| then_n ?_
  obtain rfl := some_ok H
  refine wp_ret ?_
  refine ret_gen (rs := [.tmp 4]) (vs := [.bool false]) F68 (by rfl) ⟨_, _, rfl, RV.tmp rfl, rfl⟩ ⟨_, rfl, ⟨rfl, s0⟩⟩
-- The walk of proviso/opt.number.
theorem opt_number_c {w : World} {a0 : Int} {r : S_opt_item}  (H : opt_number a0 = some r) :
  Calls Try.prog 115 #[.int .i64 a0] w (Ret fun u_ w_ => u_ = .agg ⟨[.int .i64 r.in_.At, .int .u8 (r.in_.Op.toNat : Int), .int .i64 r.in_.A, .int .i64 r.in_.B, .int .i64 r.to, .bool r.gone]⟩ ∧ SL w [] w_ []) := by
 have s0 : SL w [] w [] := SL.init0 w
 refine call_enter Try.func115 rfl Try.ntmps115 (Nat.le_of_ble_eq_true rfl) (args := [.int .i64 a0]) fun q0 F0 => ?_
 unfold opt_number at H
 refine wp_seq <| wp_reg ?_
 refine st_alloc F0 s0 Fx.zero121 rfl rfl fun g7 w8 q9 F10 s11 => ?_
 refine st_end <| then_n <| wp_seq <| wp_reg ?_
 refine st_pr F10 (PR.op (ex_move rfl) <| PR.op (ex_conv rfl Try.underlying3 Try.underlying21) <| PR.op (ex_conv rfl Try.underlying21 Try.underlying3) <| PR.op (ex_build (vs := [.int .u8 1, .int .i64 (wr (IntKind.i32.wrap a0))]) Fx.zero90 Fx.pl90 rfl (cs := [.int .i64 0, .int .u8 1, .int .i64 (wr (IntKind.i32.wrap a0)), .int .i64 0]) (rfl)) <| PR.op (ex_build (vs := [.agg ⟨[.int .i64 0, .int .u8 1, .int .i64 (wr (IntKind.i32.wrap a0)), .int .i64 0]⟩]) Fx.zero121 Fx.pl121 rfl (cs := [.int .i64 0, .int .u8 1, .int .i64 (wr (IntKind.i32.wrap a0)), .int .i64 0, .int .i64 0, .bool false]) (rfl)) <| PR.nil) fun q20 F21 => ?_
 have s26 := s11
 refine st_storea F21 s26 rfl rfl Fx.sz121 (one_cons rfl (one_cons rfl (one_cons rfl (one_cons rfl (one_cons rfl (one_cons rfl one_nil)))))) (Nat.le_of_ble_eq_true rfl) fun w22 q23 F24 s25 => ?_
 replace s25 : SL w [] w22 [Blk g7 121 [.int .i64 0, .int .u8 1, .int .i64 (wr (IntKind.i32.wrap a0)), .int .i64 0, .int .i64 0, .bool false]] := s25
 refine st_end <| then_n ?_
 obtain rfl := some_ok H
 refine wp_ret ?_
 refine ret_gen (rs := [.cell 2 121]) (vs := [.agg ⟨[.int .i64 0, .int .u8 1, .int .i64 (wr (IntKind.i32.wrap a0)), .int .i64 0, .int .i64 0, .bool false]⟩]) F24 (by rfl) ⟨_, _, rfl, RV.blk s25 (.head _) rfl Fx.agg121 rfl, rfl⟩ ⟨_, rfl, ⟨rfl, s25.drop⟩⟩
-- The walk of proviso/opt.truth.
theorem opt_truth_c {w : World} {a0 : Bool} {r : S_opt_item}  (H : opt_truth a0 = some r) :
  Calls Try.prog 116 #[.bool a0] w (Ret fun u_ w_ => u_ = .agg ⟨[.int .i64 r.in_.At, .int .u8 (r.in_.Op.toNat : Int), .int .i64 r.in_.A, .int .i64 r.in_.B, .int .i64 r.to, .bool r.gone]⟩ ∧ SL w [] w_ []) := by
 have s0 : SL w [] w [] := SL.init0 w
 refine call_enter Try.func116 rfl Try.ntmps116 (Nat.le_of_ble_eq_true rfl) (args := [.bool a0]) fun q0 F0 => ?_
 unfold opt_truth at H
 refine wp_seq <| wp_reg ?_
 refine st_alloc F0 s0 Fx.zero121 rfl rfl fun g7 w8 q9 F10 s11 => ?_
 refine st_end <| then_n <| wp_seq <| wp_reg ?_
 refine st_pr F10 (PR.op (ex_build (vs := [.int .u8 2]) Fx.zero90 Fx.pl90 rfl (cs := [.int .i64 0, .int .u8 2, .int .i64 0, .int .i64 0]) (rfl)) <| PR.op (ex_build (vs := [.agg ⟨[.int .i64 0, .int .u8 2, .int .i64 0, .int .i64 0]⟩]) Fx.zero121 Fx.pl121 rfl (cs := [.int .i64 0, .int .u8 2, .int .i64 0, .int .i64 0, .int .i64 0, .bool false]) (rfl)) <| PR.nil) fun q26 F27 => ?_
 refine st_alloc F27 s11 Fx.zero121 rfl rfl fun g28 w29 q30 F31 s32 => ?_
 have s38 := s32
 refine st_storea F31 s38 rfl rfl Fx.sz121 (one_cons rfl (one_cons rfl (one_cons rfl (one_cons rfl (one_cons rfl (one_cons rfl one_nil)))))) (Nat.le_of_ble_eq_true rfl) fun w34 q35 F36 s37 => ?_
 replace s37 : SL w [] w34 [Blk g28 121 [.int .i64 0, .int .u8 2, .int .i64 0, .int .i64 0, .int .i64 0, .bool false], Blk g7 121 [.int .i64 0, .int .u8 0, .int .i64 0, .int .i64 0, .int .i64 0, .bool false]] := s37
 refine st_end <| then_n <| wp_seq <| wp_seq <| wp_reg ?_
 refine st_pr F36 (PR.op (ex_move rfl) <| PR.nil) fun q53 F54 => ?_
 refine st_end <| then_n ?_
 refine wp_if F54 rfl (fun hb55 => ?_) (fun hb55 => ?_)
 ·replace H := ite_t hb55 H
  refine wp_reg ?_
  refine st_pr F54 (PR.op (ex_fab Fx.fa121_0 rfl rfl) <| PR.op (ex_fab Fx.fa90_2 rfl rfl) <| PR.nil) fun q56 F57 => ?_
  have s62 := s37
  refine st_store F57 s62 rfl rfl Fx.sz3 rfl rfl rfl fun w58 q59 F60 s61 => ?_
  replace s61 : SL w [] w58 [Blk g28 121 [.int .i64 0, .int .u8 2, .int .i64 1, .int .i64 0, .int .i64 0, .bool false], Blk g7 121 [.int .i64 0, .int .u8 0, .int .i64 0, .int .i64 0, .int .i64 0, .bool false]] := s61
  refine st_end <| then_n <| wp_seq <| wp_reg ?_
  refine st_pr F60 (PR.op (ex_ldagg Fx.agg121 rfl (s61.blk_cells (.head _) (o := 0) (ds := [.int .i64 0, .int .u8 2, .int .i64 1, .int .i64 0, .int .i64 0, .bool false]) (fun j u hu => by rw [Nat.zero_add]; exact hu)) rfl) <| PR.nil) fun q70 F71 => ?_
  have s76 := s61.f1
  refine st_storea F71 s76 rfl rfl Fx.sz121 (one_cons rfl (one_cons rfl (one_cons rfl (one_cons rfl (one_cons rfl (one_cons rfl one_nil)))))) (Nat.le_of_ble_eq_true rfl) fun w72 q73 F74 s75 => ?_
  replace s75 : SL w [] w72 [Blk g7 121 [.int .i64 0, .int .u8 2, .int .i64 1, .int .i64 0, .int .i64 0, .bool false], Blk g28 121 [.int .i64 0, .int .u8 2, .int .i64 1, .int .i64 0, .int .i64 0, .bool false]] := s75
  refine st_end <| then_n ?_
  obtain rfl := some_ok H
  refine wp_ret ?_
  refine ret_gen (rs := [.cell 2 121]) (vs := [.agg ⟨[.int .i64 0, .int .u8 2, .int .i64 1, .int .i64 0, .int .i64 0, .bool false]⟩]) F74 (by rfl) ⟨_, _, rfl, RV.blk s75 (.head _) rfl Fx.agg121 rfl, rfl⟩ ⟨_, rfl, ⟨rfl, s75.drop.drop⟩⟩
 ·replace H := ite_f hb55 H
  refine wp_skip <| then_n <| wp_seq <| wp_reg ?_
  refine st_pr F54 (PR.op (ex_ldagg Fx.agg121 rfl (s37.blk_cells (.head _) (o := 0) (ds := [.int .i64 0, .int .u8 2, .int .i64 0, .int .i64 0, .int .i64 0, .bool false]) (fun j u hu => by rw [Nat.zero_add]; exact hu)) rfl) <| PR.nil) fun q84 F85 => ?_
  have s90 := s37.f1
  refine st_storea F85 s90 rfl rfl Fx.sz121 (one_cons rfl (one_cons rfl (one_cons rfl (one_cons rfl (one_cons rfl (one_cons rfl one_nil)))))) (Nat.le_of_ble_eq_true rfl) fun w86 q87 F88 s89 => ?_
  replace s89 : SL w [] w86 [Blk g7 121 [.int .i64 0, .int .u8 2, .int .i64 0, .int .i64 0, .int .i64 0, .bool false], Blk g28 121 [.int .i64 0, .int .u8 2, .int .i64 0, .int .i64 0, .int .i64 0, .bool false]] := s89
  refine st_end <| then_n ?_
  obtain rfl := some_ok H
  refine wp_ret ?_
  refine ret_gen (rs := [.cell 2 121]) (vs := [.agg ⟨[.int .i64 0, .int .u8 2, .int .i64 0, .int .i64 0, .int .i64 0, .bool false]⟩]) F88 (by rfl) ⟨_, _, rfl, RV.blk s89 (.head _) rfl Fx.agg121 rfl, rfl⟩ ⟨_, rfl, ⟨rfl, s89.drop.drop⟩⟩
-- The walk of proviso/opt.three.
theorem opt_three_c {w : World} {a0 : S_api_Instr} {a1 : S_api_Instr} {a2 : S_api_Instr} {r : S_opt_item × Bool}  (H : opt_three a0 a1 a2 = some r) :
  Calls Try.prog 98 #[.agg ⟨[.int .i64 a0.At, .int .u8 (a0.Op.toNat : Int), .int .i64 a0.A, .int .i64 a0.B]⟩, .agg ⟨[.int .i64 a1.At, .int .u8 (a1.Op.toNat : Int), .int .i64 a1.A, .int .i64 a1.B]⟩, .agg ⟨[.int .i64 a2.At, .int .u8 (a2.Op.toNat : Int), .int .i64 a2.A, .int .i64 a2.B]⟩] w (Ret fun u_ w_ => u_ = .tuple ⟨[.agg ⟨[.int .i64 r.1.in_.At, .int .u8 (r.1.in_.Op.toNat : Int), .int .i64 r.1.in_.A, .int .i64 r.1.in_.B, .int .i64 r.1.to, .bool r.1.gone]⟩, .bool r.2]⟩ ∧ SL w [] w_ []) := by
 have s0 : SL w [] w [] := SL.init0 w
 refine call_enter Try.func98 rfl Try.ntmps98 (Nat.le_of_ble_eq_true rfl) (args := [.agg ⟨[.int .i64 a0.At, .int .u8 (a0.Op.toNat : Int), .int .i64 a0.A, .int .i64 a0.B]⟩, .agg ⟨[.int .i64 a1.At, .int .u8 (a1.Op.toNat : Int), .int .i64 a1.A, .int .i64 a1.B]⟩, .agg ⟨[.int .i64 a2.At, .int .u8 (a2.Op.toNat : Int), .int .i64 a2.A, .int .i64 a2.B]⟩]) fun q0 F0 => ?_
 unfold opt_three at H
 refine wp_seq <| wp_reg ?_
 refine st_box F0 s0 rfl rfl rfl fun g27 w28 q29 F30 s31 => ?_
 refine st_box F30 s31 rfl rfl rfl fun g33 w34 q35 F36 s37 => ?_
 refine st_box F36 s37 rfl rfl rfl fun g39 w40 q41 F42 s43 => ?_
 refine st_alloc F42 s43 Fx.zero121 rfl rfl fun g45 w46 q47 F48 s49 => ?_
 refine st_pr F48 (PR.op (ex_asg rfl) <| PR.nil) fun q51 F52 => ?_
 refine st_end <| then_n <| wp_seq ?_
 obtain ⟨o0, H0, R0⟩ := bind_ok H
 clear H
 refine wp_cutn (fun a w_ => Fr a 95 [(3, .pointer (some ⟨g27, 0, none⟩)), (4, .pointer (some ⟨g33, 0, none⟩)), (5, .pointer (some ⟨g39, 0, none⟩)), (6, .pointer (some ⟨g45, 0, none⟩)), (8, .bool o0)] ∧ SL w [] w_ [Blk g45 121 [.int .i64 0, .int .u8 0, .int .i64 0, .int .i64 0, .int .i64 0, .bool false], Blk g39 90 [.int .i64 a2.At, .int .u8 (a2.Op.toNat : Int), .int .i64 a2.A, .int .i64 a2.B], Blk g33 90 [.int .i64 a1.At, .int .u8 (a1.Op.toNat : Int), .int .i64 a1.A, .int .i64 a1.B], Blk g27 90 [.int .i64 a0.At, .int .u8 (a0.Op.toNat : Int), .int .i64 a0.A, .int .i64 a0.B]]) ?_ ?_
 ·have H := H0
  refine wp_reg ?_
  refine st_pr F52 (PR.op (ex_fab Fx.fa90_1 rfl rfl) <| PR.op (ex_ld Fx.nag5 rfl (s49.blk_cell (.tail _ <| .tail _ <| .tail _ <| .head _) rfl)) <| PR.op (ex_eq rfl rfl) <| PR.op (ex_move rfl) <| PR.nil) fun q1 F1 => ?_
  refine bool_split ((a0.Op.toNat : Int) == 1) (fun hb0 => ?_) (fun hb0 => ?_)
  ·replace H := ite_t hb0 H
   refine st_gop F1 rfl rfl (look_b rfl hb0) (ex_fab Fx.fa90_1 rfl rfl) rfl rfl fun q2 F2 => ?_
   refine st_gop F2 rfl rfl (look_b rfl hb0) (ex_ld Fx.nag5 rfl (s49.blk_cell (.tail _ <| .tail _ <| .head _) rfl)) rfl rfl fun q3 F3 => ?_
   refine st_gop F3 rfl rfl (look_b rfl hb0) (ex_eq rfl rfl) rfl rfl fun q4 F4 => ?_
   refine st_pr F4 (PR.op (ex_pick_t (ev_b rfl hb0) rfl) <| PR.op (ex_asg rfl) <| PR.nil) fun q5 F5 => ?_
   refine st_end ?_
   obtain rfl := some_ok H
   refine then_n ?_
   exact ⟨F5.sub ⟨rfl, rfl, rfl, rfl, rfl, trivial⟩, s49⟩
  ·replace H := ite_f hb0 H
   refine st_gskip F1 rfl rfl (look_b rfl hb0) Bool.noConfusion rfl rfl fun q6 F6 => ?_
   refine st_gskip F6 rfl rfl (look_b rfl hb0) Bool.noConfusion rfl rfl fun q7 F7 => ?_
   refine st_gskip F7 rfl rfl (look_b rfl hb0) Bool.noConfusion rfl rfl fun q8 F8 => ?_
   refine st_pr F8 (PR.op (ex_pick_f (ev_b rfl hb0) rfl) <| PR.op (ex_asg rfl) <| PR.nil) fun q9 F9 => ?_
   refine st_end ?_
   obtain rfl := some_ok H
   refine then_n ?_
   exact ⟨F9.sub ⟨rfl, rfl, rfl, rfl, rfl, trivial⟩, s49⟩
 ·intro q10 w0 hJ
  obtain ⟨F10, s1⟩ := hJ
  have H := R0
  clear R0 H0
  refine then_n <| wp_seq ?_
  obtain ⟨o1, H1, R1⟩ := bind_ok H
  clear H
  refine wp_cutn (fun a w_ => Fr a 95 [(3, .pointer (some ⟨g27, 0, none⟩)), (4, .pointer (some ⟨g33, 0, none⟩)), (5, .pointer (some ⟨g39, 0, none⟩)), (6, .pointer (some ⟨g45, 0, none⟩)), (8, .bool o0), (9, .bool o1)] ∧ SL w [] w_ [Blk g45 121 [.int .i64 0, .int .u8 0, .int .i64 0, .int .i64 0, .int .i64 0, .bool false], Blk g39 90 [.int .i64 a2.At, .int .u8 (a2.Op.toNat : Int), .int .i64 a2.A, .int .i64 a2.B], Blk g33 90 [.int .i64 a1.At, .int .u8 (a1.Op.toNat : Int), .int .i64 a1.A, .int .i64 a1.B], Blk g27 90 [.int .i64 a0.At, .int .u8 (a0.Op.toNat : Int), .int .i64 a0.A, .int .i64 a0.B]]) ?_ ?_
  ·have H := H1
   refine wp_reg ?_
   refine st_pr F10 (PR.op (ex_fab Fx.fa90_1 rfl rfl) <| PR.op (ex_ld Fx.nag5 rfl (s1.blk_cell (.tail _ <| .tail _ <| .tail _ <| .head _) rfl)) <| PR.op (ex_eq rfl rfl) <| PR.op (ex_move rfl) <| PR.nil) fun q11 F11 => ?_
   refine bool_split ((a0.Op.toNat : Int) == 2) (fun hb1 => ?_) (fun hb1 => ?_)
   ·replace H := ite_t hb1 H
    refine st_gop F11 rfl rfl (look_b rfl hb1) (ex_fab Fx.fa90_1 rfl rfl) rfl rfl fun q12 F12 => ?_
    refine st_gop F12 rfl rfl (look_b rfl hb1) (ex_ld Fx.nag5 rfl (s1.blk_cell (.tail _ <| .tail _ <| .head _) rfl)) rfl rfl fun q13 F13 => ?_
    refine st_gop F13 rfl rfl (look_b rfl hb1) (ex_eq rfl rfl) rfl rfl fun q14 F14 => ?_
    refine st_pr F14 (PR.op (ex_pick_t (ev_b rfl hb1) rfl) <| PR.op (ex_asg rfl) <| PR.nil) fun q15 F15 => ?_
    refine st_end ?_
    obtain rfl := some_ok H
    refine then_n ?_
    exact ⟨F15.sub ⟨rfl, rfl, rfl, rfl, rfl, rfl, trivial⟩, s1⟩
   ·replace H := ite_f hb1 H
    refine st_gskip F11 rfl rfl (look_b rfl hb1) Bool.noConfusion rfl rfl fun q16 F16 => ?_
    refine st_gskip F16 rfl rfl (look_b rfl hb1) Bool.noConfusion rfl rfl fun q17 F17 => ?_
    refine st_gskip F17 rfl rfl (look_b rfl hb1) Bool.noConfusion rfl rfl fun q18 F18 => ?_
    refine st_pr F18 (PR.op (ex_pick_f (ev_b rfl hb1) rfl) <| PR.op (ex_asg rfl) <| PR.nil) fun q19 F19 => ?_
    refine st_end ?_
    obtain rfl := some_ok H
    refine then_n ?_
    exact ⟨F19.sub ⟨rfl, rfl, rfl, rfl, rfl, rfl, trivial⟩, s1⟩
  ·intro q20 w1 hJ
   obtain ⟨F20, s2⟩ := hJ
   have H := R1
   clear R1 H1
   refine then_n <| wp_seq <| wp_block <| wp_seq <| wp_reg ?_
   refine st_pr F20 (PR.op (ex_move rfl) <| PR.op (ex_move rfl) <| PR.nil) fun q21 F21 => ?_
   refine bool_split o0 (fun hb2 => ?_) (fun hb2 => ?_)
   ·replace H := ite_t hb2 H
    refine st_gop F21 rfl rfl (look_b rfl hb2) (ex_fab Fx.fa90_1 rfl rfl) rfl rfl fun q22 F22 => ?_
    refine st_gop F22 rfl rfl (look_b rfl hb2) (ex_ld Fx.nag5 rfl (s2.blk_cell (.tail _ <| .head _) rfl)) rfl rfl fun q23 F23 => ?_
    refine st_gop F23 rfl rfl (look_b rfl hb2) (ex_eq rfl rfl) rfl rfl fun q24 F24 => ?_
    refine st_pr F24 (PR.op (ex_pick_t (ev_b rfl hb2) rfl) <| PR.op (ex_asg rfl) <| PR.nil) fun q25 F25 => ?_
    refine st_end <| then_n ?_
    refine wp_if F25 rfl (fun hb3 => ?_) (fun hb3 => ?_)
    ·replace H := ite_t hb3 H
     refine wp_seq <| wp_reg ?_
     obtain ⟨x0, hx0, H⟩ := bind_ok H
     refine st_pr F25 (PR.op (ex_fab Fx.fa90_2 rfl rfl) <| PR.op (ex_ld Fx.nag3 rfl (s2.blk_cell (.tail _ <| .tail _ <| .tail _ <| .head _) rfl)) <| PR.op (ex_fab Fx.fa90_2 rfl rfl) <| PR.op (ex_ld Fx.nag3 rfl (s2.blk_cell (.tail _ <| .tail _ <| .head _) rfl)) <| PR.op (ex_add rfl rfl) <| PR.nil) fun q26 F26 => ?_
     refine st_call (args := [.tmp 37]) F26 Fx.fn115 rfl (opt_number_c (a0 := wr (a0.A + a1.A))   hx0) rfl fun v0 w2 q27 hS0 F27 => ?_
     obtain ⟨rfl, hq0⟩ := hS0
     have s3 := s2.add hq0
     have s4 := s3
     refine st_storea F27 s4 rfl rfl Fx.sz121 (one_cons rfl (one_cons rfl (one_cons rfl (one_cons rfl (one_cons rfl (one_cons rfl one_nil)))))) (Nat.le_of_ble_eq_true rfl) fun w3 q28 F28 s5 => ?_
     replace s5 : SL w [] w3 [Blk g45 121 [.int .i64 x0.in_.At, .int .u8 (x0.in_.Op.toNat : Int), .int .i64 x0.in_.A, .int .i64 x0.in_.B, .int .i64 x0.to, .bool x0.gone], Blk g39 90 [.int .i64 a2.At, .int .u8 (a2.Op.toNat : Int), .int .i64 a2.A, .int .i64 a2.B], Blk g33 90 [.int .i64 a1.At, .int .u8 (a1.Op.toNat : Int), .int .i64 a1.A, .int .i64 a1.B], Blk g27 90 [.int .i64 a0.At, .int .u8 (a0.Op.toNat : Int), .int .i64 a0.A, .int .i64 a0.B]] := s5
     refine st_pr F28 (PR.op (ex_asg rfl) <| PR.nil) fun q30 F29 => ?_
     refine st_end <| then_n ?_
     obtain rfl := some_ok H
     refine wp_ret ?_
     refine blk_r <| then_r ?_
     refine ret_gen (rs := [.cell 6 121, .tmp 7]) (vs := [.agg ⟨[.int .i64 x0.in_.At, .int .u8 (x0.in_.Op.toNat : Int), .int .i64 x0.in_.A, .int .i64 x0.in_.B, .int .i64 x0.to, .bool x0.gone]⟩, .bool true]) F29 (by rfl) ⟨_, _, rfl, RV.blk s5 (.head _) rfl Fx.agg121 rfl, _, _, rfl, RV.tmp rfl, rfl⟩ ⟨_, rfl, ⟨rfl, s5.drop.drop.drop.drop⟩⟩
    ·replace H := ite_f hb3 H
     refine wp_seq <| wp_reg ?_
     refine st_pr F25 (PR.op (ex_move rfl) <| PR.op (ex_move rfl) <| PR.nil) fun q31 F31 => ?_
     refine st_gop F31 rfl rfl (look_b rfl hb2) (ex_fab Fx.fa90_1 rfl rfl) rfl rfl fun q32 F32 => ?_
     refine st_gop F32 rfl rfl (look_b rfl hb2) (ex_ld Fx.nag5 rfl (s2.blk_cell (.tail _ <| .head _) rfl)) rfl rfl fun q33 F33 => ?_
     refine st_gop F33 rfl rfl (look_b rfl hb2) (ex_eq rfl rfl) rfl rfl fun q34 F34 => ?_
     refine st_pr F34 (PR.op (ex_pick_t (ev_b rfl hb2) rfl) <| PR.op (ex_asg rfl) <| PR.nil) fun q36 F35 => ?_
     refine st_end <| then_n ?_
     refine wp_if F35 rfl (fun hb4 => ?_) (fun hb4 => ?_)
     ·replace H := ite_t hb4 H
      refine wp_seq <| wp_reg ?_
      obtain ⟨x1, hx1, H⟩ := bind_ok H
      refine st_pr F35 (PR.op (ex_fab Fx.fa90_2 rfl rfl) <| PR.op (ex_ld Fx.nag3 rfl (s2.blk_cell (.tail _ <| .tail _ <| .tail _ <| .head _) rfl)) <| PR.op (ex_fab Fx.fa90_2 rfl rfl) <| PR.op (ex_ld Fx.nag3 rfl (s2.blk_cell (.tail _ <| .tail _ <| .head _) rfl)) <| PR.op (ex_sub rfl rfl) <| PR.nil) fun q37 F37 => ?_
      refine st_call (args := [.tmp 50]) F37 Fx.fn115 rfl (opt_number_c (a0 := wr (a0.A - a1.A))   hx1) rfl fun v1 w4 q38 hS1 F38 => ?_
      obtain ⟨rfl, hq1⟩ := hS1
      have s6 := s2.add hq1
      have s7 := s6
      refine st_storea F38 s7 rfl rfl Fx.sz121 (one_cons rfl (one_cons rfl (one_cons rfl (one_cons rfl (one_cons rfl (one_cons rfl one_nil)))))) (Nat.le_of_ble_eq_true rfl) fun w5 q39 F39 s8 => ?_
      replace s8 : SL w [] w5 [Blk g45 121 [.int .i64 x1.in_.At, .int .u8 (x1.in_.Op.toNat : Int), .int .i64 x1.in_.A, .int .i64 x1.in_.B, .int .i64 x1.to, .bool x1.gone], Blk g39 90 [.int .i64 a2.At, .int .u8 (a2.Op.toNat : Int), .int .i64 a2.A, .int .i64 a2.B], Blk g33 90 [.int .i64 a1.At, .int .u8 (a1.Op.toNat : Int), .int .i64 a1.A, .int .i64 a1.B], Blk g27 90 [.int .i64 a0.At, .int .u8 (a0.Op.toNat : Int), .int .i64 a0.A, .int .i64 a0.B]] := s8
      refine st_pr F39 (PR.op (ex_asg rfl) <| PR.nil) fun q40 F40 => ?_
      refine st_end <| then_n ?_
      obtain rfl := some_ok H
      refine wp_ret ?_
      refine blk_r <| then_r ?_
      refine ret_gen (rs := [.cell 6 121, .tmp 7]) (vs := [.agg ⟨[.int .i64 x1.in_.At, .int .u8 (x1.in_.Op.toNat : Int), .int .i64 x1.in_.A, .int .i64 x1.in_.B, .int .i64 x1.to, .bool x1.gone]⟩, .bool true]) F40 (by rfl) ⟨_, _, rfl, RV.blk s8 (.head _) rfl Fx.agg121 rfl, _, _, rfl, RV.tmp rfl, rfl⟩ ⟨_, rfl, ⟨rfl, s8.drop.drop.drop.drop⟩⟩
     ·replace H := ite_f hb4 H
      refine wp_seq <| wp_reg ?_
      refine st_pr F35 (PR.op (ex_move rfl) <| PR.op (ex_move rfl) <| PR.nil) fun q42 F41 => ?_
      refine st_gop F41 rfl rfl (look_b rfl hb2) (ex_fab Fx.fa90_1 rfl rfl) rfl rfl fun q43 F43 => ?_
      refine st_gop F43 rfl rfl (look_b rfl hb2) (ex_ld Fx.nag5 rfl (s2.blk_cell (.tail _ <| .head _) rfl)) rfl rfl fun q44 F44 => ?_
      refine st_gop F44 rfl rfl (look_b rfl hb2) (ex_eq rfl rfl) rfl rfl fun q45 F45 => ?_
      refine st_pr F45 (PR.op (ex_pick_t (ev_b rfl hb2) rfl) <| PR.op (ex_asg rfl) <| PR.nil) fun q46 F46 => ?_
      refine st_end <| then_n ?_
      refine wp_if F46 rfl (fun hb5 => ?_) (fun hb5 => ?_)
      ·replace H := ite_t hb5 H
       refine wp_seq <| wp_reg ?_
       obtain ⟨x2, hx2, H⟩ := bind_ok H
       refine st_pr F46 (PR.op (ex_fab Fx.fa90_2 rfl rfl) <| PR.op (ex_ld Fx.nag3 rfl (s2.blk_cell (.tail _ <| .tail _ <| .tail _ <| .head _) rfl)) <| PR.op (ex_fab Fx.fa90_2 rfl rfl) <| PR.op (ex_ld Fx.nag3 rfl (s2.blk_cell (.tail _ <| .tail _ <| .head _) rfl)) <| PR.op (ex_mul rfl rfl) <| PR.nil) fun q48 F47 => ?_
       refine st_call (args := [.tmp 63]) F47 Fx.fn115 rfl (opt_number_c (a0 := wr (a0.A * a1.A))   hx2) rfl fun v2 w6 q49 hS2 F49 => ?_
       obtain ⟨rfl, hq2⟩ := hS2
       have s9 := s2.add hq2
       have s10 := s9
       refine st_storea F49 s10 rfl rfl Fx.sz121 (one_cons rfl (one_cons rfl (one_cons rfl (one_cons rfl (one_cons rfl (one_cons rfl one_nil)))))) (Nat.le_of_ble_eq_true rfl) fun w7 q50 F50 s11 => ?_
       replace s11 : SL w [] w7 [Blk g45 121 [.int .i64 x2.in_.At, .int .u8 (x2.in_.Op.toNat : Int), .int .i64 x2.in_.A, .int .i64 x2.in_.B, .int .i64 x2.to, .bool x2.gone], Blk g39 90 [.int .i64 a2.At, .int .u8 (a2.Op.toNat : Int), .int .i64 a2.A, .int .i64 a2.B], Blk g33 90 [.int .i64 a1.At, .int .u8 (a1.Op.toNat : Int), .int .i64 a1.A, .int .i64 a1.B], Blk g27 90 [.int .i64 a0.At, .int .u8 (a0.Op.toNat : Int), .int .i64 a0.A, .int .i64 a0.B]] := s11
       refine st_pr F50 (PR.op (ex_asg rfl) <| PR.nil) fun q52 F51 => ?_
       refine st_end <| then_n ?_
       obtain rfl := some_ok H
       refine wp_ret ?_
       refine blk_r <| then_r ?_
       refine ret_gen (rs := [.cell 6 121, .tmp 7]) (vs := [.agg ⟨[.int .i64 x2.in_.At, .int .u8 (x2.in_.Op.toNat : Int), .int .i64 x2.in_.A, .int .i64 x2.in_.B, .int .i64 x2.to, .bool x2.gone]⟩, .bool true]) F51 (by rfl) ⟨_, _, rfl, RV.blk s11 (.head _) rfl Fx.agg121 rfl, _, _, rfl, RV.tmp rfl, rfl⟩ ⟨_, rfl, ⟨rfl, s11.drop.drop.drop.drop⟩⟩
      ·replace H := ite_f hb5 H
       refine wp_seq <| wp_reg ?_
       refine st_pr F46 (PR.op (ex_move rfl) <| PR.op (ex_move rfl) <| PR.nil) fun q53 F53 => ?_
       refine st_gop F53 rfl rfl (look_b rfl hb2) (ex_fab Fx.fa90_1 rfl rfl) rfl rfl fun q54 F54 => ?_
       refine st_gop F54 rfl rfl (look_b rfl hb2) (ex_ld Fx.nag5 rfl (s2.blk_cell (.tail _ <| .head _) rfl)) rfl rfl fun q55 F55 => ?_
       refine st_gop F55 rfl rfl (look_b rfl hb2) (ex_eq rfl rfl) rfl rfl fun q56 F56 => ?_
       refine st_pr F56 (PR.op (ex_pick_t (ev_b rfl hb2) rfl) <| PR.op (ex_asg rfl) <| PR.nil) fun q57 F57 => ?_
       refine st_end <| then_n ?_
       refine wp_if F57 rfl (fun hb6 => ?_) (fun hb6 => ?_)
       ·replace H := ite_t hb6 H
        refine wp_seq <| wp_reg ?_
        obtain ⟨x3, hx3, H⟩ := bind_ok H
        refine st_pr F57 (PR.op (ex_fab Fx.fa90_2 rfl rfl) <| PR.op (ex_ld Fx.nag3 rfl (s2.blk_cell (.tail _ <| .tail _ <| .tail _ <| .head _) rfl)) <| PR.op (ex_fab Fx.fa90_2 rfl rfl) <| PR.op (ex_ld Fx.nag3 rfl (s2.blk_cell (.tail _ <| .tail _ <| .head _) rfl)) <| PR.op (ex_lt rfl rfl) <| PR.nil) fun q58 F58 => ?_
        refine st_call (args := [.tmp 76]) F58 Fx.fn116 rfl (opt_truth_c (a0 := decide (a0.A < a1.A))   hx3) rfl fun v3 w8 q59 hS3 F59 => ?_
        obtain ⟨rfl, hq3⟩ := hS3
        have s12 := s2.add hq3
        have s13 := s12
        refine st_storea F59 s13 rfl rfl Fx.sz121 (one_cons rfl (one_cons rfl (one_cons rfl (one_cons rfl (one_cons rfl (one_cons rfl one_nil)))))) (Nat.le_of_ble_eq_true rfl) fun w9 q60 F60 s14 => ?_
        replace s14 : SL w [] w9 [Blk g45 121 [.int .i64 x3.in_.At, .int .u8 (x3.in_.Op.toNat : Int), .int .i64 x3.in_.A, .int .i64 x3.in_.B, .int .i64 x3.to, .bool x3.gone], Blk g39 90 [.int .i64 a2.At, .int .u8 (a2.Op.toNat : Int), .int .i64 a2.A, .int .i64 a2.B], Blk g33 90 [.int .i64 a1.At, .int .u8 (a1.Op.toNat : Int), .int .i64 a1.A, .int .i64 a1.B], Blk g27 90 [.int .i64 a0.At, .int .u8 (a0.Op.toNat : Int), .int .i64 a0.A, .int .i64 a0.B]] := s14
        refine st_pr F60 (PR.op (ex_asg rfl) <| PR.nil) fun q61 F61 => ?_
        refine st_end <| then_n ?_
        obtain rfl := some_ok H
        refine wp_ret ?_
        refine blk_r <| then_r ?_
        refine ret_gen (rs := [.cell 6 121, .tmp 7]) (vs := [.agg ⟨[.int .i64 x3.in_.At, .int .u8 (x3.in_.Op.toNat : Int), .int .i64 x3.in_.A, .int .i64 x3.in_.B, .int .i64 x3.to, .bool x3.gone]⟩, .bool true]) F61 (by rfl) ⟨_, _, rfl, RV.blk s14 (.head _) rfl Fx.agg121 rfl, _, _, rfl, RV.tmp rfl, rfl⟩ ⟨_, rfl, ⟨rfl, s14.drop.drop.drop.drop⟩⟩
       ·replace H := ite_f hb6 H
        refine wp_seq <| wp_reg ?_
        refine st_pr F57 (PR.op (ex_move rfl) <| PR.op (ex_move rfl) <| PR.nil) fun q62 F62 => ?_
        refine st_gskip F62 rfl rfl (look_b rfl hb2) Bool.noConfusion rfl rfl fun q63 F63 => ?_
        refine st_pr F63 (PR.op (ex_pick_t (ev_b rfl hb2) rfl) <| PR.op (ex_move rfl) <| PR.nil) fun q64 F64 => ?_
        refine st_gop F64 rfl rfl rfl (ex_fab Fx.fa90_1 rfl rfl) rfl rfl fun q65 F65 => ?_
        refine st_gop F65 rfl rfl rfl (ex_ld Fx.nag5 rfl (s2.blk_cell (.tail _ <| .head _) rfl)) rfl rfl fun q66 F66 => ?_
        refine st_gop F66 rfl rfl rfl (ex_eq rfl rfl) rfl rfl fun q67 F67 => ?_
        refine st_pr F67 (PR.op (ex_pick_t rfl rfl) <| PR.op (ex_asg rfl) <| PR.nil) fun q68 F68 => ?_
        refine st_end <| then_n ?_
        refine wp_if F68 rfl (fun hb7 => ?_) (fun hb7 => ?_)
        ·replace H := ite_t hb7 H
         refine wp_seq <| wp_reg ?_
         obtain ⟨x4, hx4, H⟩ := bind_ok H
         refine st_pr F68 (PR.op (ex_fab Fx.fa90_2 rfl rfl) <| PR.op (ex_ld Fx.nag3 rfl (s2.blk_cell (.tail _ <| .tail _ <| .tail _ <| .head _) rfl)) <| PR.op (ex_fab Fx.fa90_2 rfl rfl) <| PR.op (ex_ld Fx.nag3 rfl (s2.blk_cell (.tail _ <| .tail _ <| .head _) rfl)) <| PR.op (ex_eq rfl rfl) <| PR.nil) fun q69 F69 => ?_
         refine st_call (args := [.tmp 92]) F69 Fx.fn116 rfl (opt_truth_c (a0 := (a0.A == a1.A))   hx4) rfl fun v4 w10 q70 hS4 F70 => ?_
         obtain ⟨rfl, hq4⟩ := hS4
         have s15 := s2.add hq4
         have s16 := s15
         refine st_storea F70 s16 rfl rfl Fx.sz121 (one_cons rfl (one_cons rfl (one_cons rfl (one_cons rfl (one_cons rfl (one_cons rfl one_nil)))))) (Nat.le_of_ble_eq_true rfl) fun w11 q71 F71 s17 => ?_
         replace s17 : SL w [] w11 [Blk g45 121 [.int .i64 x4.in_.At, .int .u8 (x4.in_.Op.toNat : Int), .int .i64 x4.in_.A, .int .i64 x4.in_.B, .int .i64 x4.to, .bool x4.gone], Blk g39 90 [.int .i64 a2.At, .int .u8 (a2.Op.toNat : Int), .int .i64 a2.A, .int .i64 a2.B], Blk g33 90 [.int .i64 a1.At, .int .u8 (a1.Op.toNat : Int), .int .i64 a1.A, .int .i64 a1.B], Blk g27 90 [.int .i64 a0.At, .int .u8 (a0.Op.toNat : Int), .int .i64 a0.A, .int .i64 a0.B]] := s17
         refine st_pr F71 (PR.op (ex_asg rfl) <| PR.nil) fun q72 F72 => ?_
         refine st_end <| then_n ?_
         obtain rfl := some_ok H
         refine wp_ret ?_
         refine blk_r <| then_r ?_
         refine ret_gen (rs := [.cell 6 121, .tmp 7]) (vs := [.agg ⟨[.int .i64 x4.in_.At, .int .u8 (x4.in_.Op.toNat : Int), .int .i64 x4.in_.A, .int .i64 x4.in_.B, .int .i64 x4.to, .bool x4.gone]⟩, .bool true]) F72 (by rfl) ⟨_, _, rfl, RV.blk s17 (.head _) rfl Fx.agg121 rfl, _, _, rfl, RV.tmp rfl, rfl⟩ ⟨_, rfl, ⟨rfl, s17.drop.drop.drop.drop⟩⟩
        ·replace H := ite_f hb7 H
         refine wp_skip ?_
         refine blk_n ?_
         refine then_n <| wp_seq <| wp_reg ?_
         refine st_pr F68 (PR.op (ex_build (vs := []) Fx.zero121 Fx.pl121 rfl (cs := [.int .i64 0, .int .u8 0, .int .i64 0, .int .i64 0, .int .i64 0, .bool false]) (rfl)) <| PR.nil) fun q73 F73 => ?_
         have s18 := s2
         refine st_storea F73 s18 rfl rfl Fx.sz121 (one_cons rfl (one_cons rfl (one_cons rfl (one_cons rfl (one_cons rfl (one_cons rfl one_nil)))))) (Nat.le_of_ble_eq_true rfl) fun w12 q74 F74 s19 => ?_
         replace s19 : SL w [] w12 [Blk g45 121 [.int .i64 0, .int .u8 0, .int .i64 0, .int .i64 0, .int .i64 0, .bool false], Blk g39 90 [.int .i64 a2.At, .int .u8 (a2.Op.toNat : Int), .int .i64 a2.A, .int .i64 a2.B], Blk g33 90 [.int .i64 a1.At, .int .u8 (a1.Op.toNat : Int), .int .i64 a1.A, .int .i64 a1.B], Blk g27 90 [.int .i64 a0.At, .int .u8 (a0.Op.toNat : Int), .int .i64 a0.A, .int .i64 a0.B]] := s19
         refine st_pr F74 (PR.op (ex_asg rfl) <| PR.nil) fun q75 F75 => ?_
         refine st_end <| then_n ?_
         obtain rfl := some_ok H
         refine wp_ret ?_
         refine ret_gen (rs := [.cell 6 121, .tmp 7]) (vs := [.agg ⟨[.int .i64 0, .int .u8 0, .int .i64 0, .int .i64 0, .int .i64 0, .bool false]⟩, .bool false]) F75 (by rfl) ⟨_, _, rfl, RV.blk s19 (.head _) rfl Fx.agg121 rfl, _, _, rfl, RV.tmp rfl, rfl⟩ ⟨_, rfl, ⟨rfl, s19.drop.drop.drop.drop⟩⟩
   ·replace H := ite_f hb2 H
    refine st_gskip F21 rfl rfl (look_b rfl hb2) Bool.noConfusion rfl rfl fun q76 F76 => ?_
    refine st_gskip F76 rfl rfl (look_b rfl hb2) Bool.noConfusion rfl rfl fun q77 F77 => ?_
    refine st_gskip F77 rfl rfl (look_b rfl hb2) Bool.noConfusion rfl rfl fun q78 F78 => ?_
    refine st_pr F78 (PR.op (ex_pick_f (ev_b rfl hb2) rfl) <| PR.op (ex_asg rfl) <| PR.nil) fun q79 F79 => ?_
    refine st_end <| then_n ?_
    refine wp_if_f F79 rfl ?_
    refine wp_seq <| wp_reg ?_
    refine st_pr F79 (PR.op (ex_move rfl) <| PR.op (ex_move rfl) <| PR.nil) fun q80 F80 => ?_
    refine st_gskip F80 rfl rfl (look_b rfl hb2) Bool.noConfusion rfl rfl fun q81 F81 => ?_
    refine st_gskip F81 rfl rfl (look_b rfl hb2) Bool.noConfusion rfl rfl fun q82 F82 => ?_
    refine st_gskip F82 rfl rfl (look_b rfl hb2) Bool.noConfusion rfl rfl fun q83 F83 => ?_
    refine st_pr F83 (PR.op (ex_pick_f (ev_b rfl hb2) rfl) <| PR.op (ex_asg rfl) <| PR.nil) fun q84 F84 => ?_
    refine st_end <| then_n ?_
    refine wp_if_f F84 rfl ?_
    refine wp_seq <| wp_reg ?_
    refine st_pr F84 (PR.op (ex_move rfl) <| PR.op (ex_move rfl) <| PR.nil) fun q85 F85 => ?_
    refine st_gskip F85 rfl rfl (look_b rfl hb2) Bool.noConfusion rfl rfl fun q86 F86 => ?_
    refine st_gskip F86 rfl rfl (look_b rfl hb2) Bool.noConfusion rfl rfl fun q87 F87 => ?_
    refine st_gskip F87 rfl rfl (look_b rfl hb2) Bool.noConfusion rfl rfl fun q88 F88 => ?_
    refine st_pr F88 (PR.op (ex_pick_f (ev_b rfl hb2) rfl) <| PR.op (ex_asg rfl) <| PR.nil) fun q89 F89 => ?_
    refine st_end <| then_n ?_
    refine wp_if_f F89 rfl ?_
    refine wp_seq <| wp_reg ?_
    refine st_pr F89 (PR.op (ex_move rfl) <| PR.op (ex_move rfl) <| PR.nil) fun q90 F90 => ?_
    refine st_gskip F90 rfl rfl (look_b rfl hb2) Bool.noConfusion rfl rfl fun q91 F91 => ?_
    refine st_gskip F91 rfl rfl (look_b rfl hb2) Bool.noConfusion rfl rfl fun q92 F92 => ?_
    refine st_gskip F92 rfl rfl (look_b rfl hb2) Bool.noConfusion rfl rfl fun q93 F93 => ?_
    refine st_pr F93 (PR.op (ex_pick_f (ev_b rfl hb2) rfl) <| PR.op (ex_asg rfl) <| PR.nil) fun q94 F94 => ?_
    refine st_end <| then_n ?_
    refine wp_if_f F94 rfl ?_
    refine wp_seq <| wp_reg ?_
    refine st_pr F94 (PR.op (ex_move rfl) <| PR.op (ex_move rfl) <| PR.nil) fun q95 F95 => ?_
    refine st_gop F95 rfl rfl (look_b rfl hb2) (ex_move rfl) rfl rfl fun q96 F96 => ?_
    refine st_pr F96 (PR.op (ex_pick_f (ev_b rfl hb2) rfl) <| PR.op (ex_move rfl) <| PR.nil) fun q97 F97 => ?_
    refine bool_split o1 (fun hb8 => ?_) (fun hb8 => ?_)
    ·replace H := ite_t hb8 H
     refine st_gop F97 rfl rfl (look_b rfl hb8) (ex_fab Fx.fa90_1 rfl rfl) rfl rfl fun q98 F98 => ?_
     refine st_gop F98 rfl rfl (look_b rfl hb8) (ex_ld Fx.nag5 rfl (s2.blk_cell (.tail _ <| .head _) rfl)) rfl rfl fun q99 F99 => ?_
     refine st_gop F99 rfl rfl (look_b rfl hb8) (ex_eq rfl rfl) rfl rfl fun q100 F100 => ?_
     refine st_pr F100 (PR.op (ex_pick_t (ev_b rfl hb8) rfl) <| PR.op (ex_asg rfl) <| PR.nil) fun q101 F101 => ?_
     refine st_end <| then_n ?_
     refine wp_if F101 rfl (fun hb9 => ?_) (fun hb9 => ?_)
     ·replace H := ite_t hb9 H
      refine wp_seq <| wp_reg ?_
      obtain ⟨x5, hx5, H⟩ := bind_ok H
      refine st_pr F101 (PR.op (ex_fab Fx.fa90_2 rfl rfl) <| PR.op (ex_ld Fx.nag3 rfl (s2.blk_cell (.tail _ <| .tail _ <| .tail _ <| .head _) rfl)) <| PR.op (ex_fab Fx.fa90_2 rfl rfl) <| PR.op (ex_ld Fx.nag3 rfl (s2.blk_cell (.tail _ <| .tail _ <| .head _) rfl)) <| PR.op (ex_eq rfl rfl) <| PR.nil) fun q102 F102 => ?_
      refine st_call (args := [.tmp 92]) F102 Fx.fn116 rfl (opt_truth_c (a0 := (a0.A == a1.A))   hx5) rfl fun v5 w13 q103 hS5 F103 => ?_
      obtain ⟨rfl, hq5⟩ := hS5
      have s20 := s2.add hq5
      have s21 := s20
      refine st_storea F103 s21 rfl rfl Fx.sz121 (one_cons rfl (one_cons rfl (one_cons rfl (one_cons rfl (one_cons rfl (one_cons rfl one_nil)))))) (Nat.le_of_ble_eq_true rfl) fun w14 q104 F104 s22 => ?_
      replace s22 : SL w [] w14 [Blk g45 121 [.int .i64 x5.in_.At, .int .u8 (x5.in_.Op.toNat : Int), .int .i64 x5.in_.A, .int .i64 x5.in_.B, .int .i64 x5.to, .bool x5.gone], Blk g39 90 [.int .i64 a2.At, .int .u8 (a2.Op.toNat : Int), .int .i64 a2.A, .int .i64 a2.B], Blk g33 90 [.int .i64 a1.At, .int .u8 (a1.Op.toNat : Int), .int .i64 a1.A, .int .i64 a1.B], Blk g27 90 [.int .i64 a0.At, .int .u8 (a0.Op.toNat : Int), .int .i64 a0.A, .int .i64 a0.B]] := s22
      refine st_pr F104 (PR.op (ex_asg rfl) <| PR.nil) fun q105 F105 => ?_
      refine st_end <| then_n ?_
      obtain rfl := some_ok H
      refine wp_ret ?_
      refine blk_r <| then_r ?_
      refine ret_gen (rs := [.cell 6 121, .tmp 7]) (vs := [.agg ⟨[.int .i64 x5.in_.At, .int .u8 (x5.in_.Op.toNat : Int), .int .i64 x5.in_.A, .int .i64 x5.in_.B, .int .i64 x5.to, .bool x5.gone]⟩, .bool true]) F105 (by rfl) ⟨_, _, rfl, RV.blk s22 (.head _) rfl Fx.agg121 rfl, _, _, rfl, RV.tmp rfl, rfl⟩ ⟨_, rfl, ⟨rfl, s22.drop.drop.drop.drop⟩⟩
     ·replace H := ite_f hb9 H
      refine wp_skip ?_
      refine blk_n ?_
      refine then_n <| wp_seq <| wp_reg ?_
      refine st_pr F101 (PR.op (ex_build (vs := []) Fx.zero121 Fx.pl121 rfl (cs := [.int .i64 0, .int .u8 0, .int .i64 0, .int .i64 0, .int .i64 0, .bool false]) (rfl)) <| PR.nil) fun q106 F106 => ?_
      have s23 := s2
      refine st_storea F106 s23 rfl rfl Fx.sz121 (one_cons rfl (one_cons rfl (one_cons rfl (one_cons rfl (one_cons rfl (one_cons rfl one_nil)))))) (Nat.le_of_ble_eq_true rfl) fun w15 q107 F107 s24 => ?_
      replace s24 : SL w [] w15 [Blk g45 121 [.int .i64 0, .int .u8 0, .int .i64 0, .int .i64 0, .int .i64 0, .bool false], Blk g39 90 [.int .i64 a2.At, .int .u8 (a2.Op.toNat : Int), .int .i64 a2.A, .int .i64 a2.B], Blk g33 90 [.int .i64 a1.At, .int .u8 (a1.Op.toNat : Int), .int .i64 a1.A, .int .i64 a1.B], Blk g27 90 [.int .i64 a0.At, .int .u8 (a0.Op.toNat : Int), .int .i64 a0.A, .int .i64 a0.B]] := s24
      refine st_pr F107 (PR.op (ex_asg rfl) <| PR.nil) fun q108 F108 => ?_
      refine st_end <| then_n ?_
      obtain rfl := some_ok H
      refine wp_ret ?_
      refine ret_gen (rs := [.cell 6 121, .tmp 7]) (vs := [.agg ⟨[.int .i64 0, .int .u8 0, .int .i64 0, .int .i64 0, .int .i64 0, .bool false]⟩, .bool false]) F108 (by rfl) ⟨_, _, rfl, RV.blk s24 (.head _) rfl Fx.agg121 rfl, _, _, rfl, RV.tmp rfl, rfl⟩ ⟨_, rfl, ⟨rfl, s24.drop.drop.drop.drop⟩⟩
    ·replace H := ite_f hb8 H
     refine st_gskip F97 rfl rfl (look_b rfl hb8) Bool.noConfusion rfl rfl fun q109 F109 => ?_
     refine st_gskip F109 rfl rfl (look_b rfl hb8) Bool.noConfusion rfl rfl fun q110 F110 => ?_
     refine st_gskip F110 rfl rfl (look_b rfl hb8) Bool.noConfusion rfl rfl fun q111 F111 => ?_
     refine st_pr F111 (PR.op (ex_pick_f (ev_b rfl hb8) rfl) <| PR.op (ex_asg rfl) <| PR.nil) fun q112 F112 => ?_
     refine st_end <| then_n ?_
     refine wp_if_f F112 rfl ?_
     refine wp_skip ?_
     refine blk_n ?_
     refine then_n <| wp_seq <| wp_reg ?_
     refine st_pr F112 (PR.op (ex_build (vs := []) Fx.zero121 Fx.pl121 rfl (cs := [.int .i64 0, .int .u8 0, .int .i64 0, .int .i64 0, .int .i64 0, .bool false]) (rfl)) <| PR.nil) fun q114 F113 => ?_
     have s25 := s2
     refine st_storea F113 s25 rfl rfl Fx.sz121 (one_cons rfl (one_cons rfl (one_cons rfl (one_cons rfl (one_cons rfl (one_cons rfl one_nil)))))) (Nat.le_of_ble_eq_true rfl) fun w16 q115 F115 s26 => ?_
     replace s26 : SL w [] w16 [Blk g45 121 [.int .i64 0, .int .u8 0, .int .i64 0, .int .i64 0, .int .i64 0, .bool false], Blk g39 90 [.int .i64 a2.At, .int .u8 (a2.Op.toNat : Int), .int .i64 a2.A, .int .i64 a2.B], Blk g33 90 [.int .i64 a1.At, .int .u8 (a1.Op.toNat : Int), .int .i64 a1.A, .int .i64 a1.B], Blk g27 90 [.int .i64 a0.At, .int .u8 (a0.Op.toNat : Int), .int .i64 a0.A, .int .i64 a0.B]] := s26
     refine st_pr F115 (PR.op (ex_asg rfl) <| PR.nil) fun q117 F116 => ?_
     refine st_end <| then_n ?_
     obtain rfl := some_ok H
     refine wp_ret ?_
     refine ret_gen (rs := [.cell 6 121, .tmp 7]) (vs := [.agg ⟨[.int .i64 0, .int .u8 0, .int .i64 0, .int .i64 0, .int .i64 0, .bool false]⟩, .bool false]) F116 (by rfl) ⟨_, _, rfl, RV.blk s26 (.head _) rfl Fx.agg121 rfl, _, _, rfl, RV.tmp rfl, rfl⟩ ⟨_, rfl, ⟨rfl, s26.drop.drop.drop.drop⟩⟩
end Go.Proofs.Ytmeodoidfpcjlaa
