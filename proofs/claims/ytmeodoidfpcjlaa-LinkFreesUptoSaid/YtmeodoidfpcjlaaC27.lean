/- The walk of proviso/flow.Scan. -/
import Derived.Test.YtmeodoidfpcjlaaFx
import Derived.Test.YtmeodoidfpcjlaaDf
import Derived.Test.YtmeodoidfpcjlaaC52
import Derived.Test.YtmeodoidfpcjlaaC53
set_option linter.unusedVariables false
set_option linter.unusedSimpArgs false
namespace Go.Proofs.Ytmeodoidfpcjlaa
open Go Go.RowKit Go.Pv
theorem flow_Scan_c {w : World} {v0 : Value} {a0 : List UInt8} {r : (List S_api_Instr) × Int × Int} (hr0 : Rd Ty.u8 w [] v0 a0) (H : flow_Scan a0 = some r) :
    Calls Try.prog 27 #[v0] w (Ret fun u_ w_ => ∃ u0 : Value, u_ = .tuple ⟨[u0, .int .i64 r.2.1, .int .i64 r.2.2]⟩ ∧ SL w [] w_ [Sl T_api_Instr u0 r.1]) := by
  have s0 : SL w [] w [] := SL.init0 w
  refine call_enter Try.func27 rfl Try.ntmps27 (Nat.le_of_ble_eq_true rfl) (args := [v0]) fun q0 F0 => ?_
  unfold flow_Scan at H
  refine wp_seq ?_
  refine wp_reg ?_
  refine st_pr F0 (PR.op (ex_asg rfl) <| PR.op (ex_asg rfl) <| PR.op (ex_asg rfl) <| PR.nil) fun q3 F4 => ?_
  refine st_end ?_
  refine then_n ?_
  refine wp_seq ?_
  refine wp_seq ?_
  refine wp_reg ?_
  refine st_pr F4 (PR.op (ex_move rfl) <| PR.op (ex_len rfl Try.underlying22 (formL (rdL hr0 s0))) <| PR.op (ex_gt rfl rfl) <| PR.nil) fun q16 F17 => ?_
  refine st_end ?_
  refine then_n ?_
  refine wp_if F17 rfl (fun hb18 => ?_) (fun hb18 => ?_)
  · replace H := ite_t hb18 H
    refine wp_seq ?_
    refine wp_reg ?_
    refine st_pr F17 (PR.op (ex_asg rfl) <| PR.op (ex_asg rfl) <| PR.op (ex_asg rfl) <| PR.nil) fun q21 F22 => ?_
    refine st_end ?_
    refine then_n ?_
    obtain rfl := some_ok H
    refine wp_ret ?_
    refine then_r ?_
    refine ret_gen (rs := [.tmp 2, .tmp 3, .tmp 4]) (vs := [.slice none 0 0, .int .i64 0, .int .i64 4]) F22 (by rfl) ⟨_, _, rfl, RV.tmp rfl, _, _, rfl, RV.tmp rfl, _, _, rfl, RV.tmp rfl, rfl⟩ ⟨_, rfl, ⟨(.slice none 0 0), rfl, (SL.nilSl (T := T_api_Instr) s0)⟩⟩
  · replace H := ite_f hb18 H
    refine wp_skip ?_
    refine then_n ?_
    refine wp_seq ?_
    refine wp_reg ?_
    refine st_pr F17 (PR.op (ex_asg rfl) <| PR.nil) fun q25 F26 => ?_
    refine st_end ?_
    refine then_n ?_
    refine wp_seq ?_
    refine wp_seq ?_
    refine wp_reg ?_
    refine st_pr F26 (PR.op (ex_asg rfl) <| PR.nil) fun q1114 F1115 => ?_
    refine st_end ?_
    refine then_n ?_
    obtain ⟨o1651, H1652, R1653⟩ := bind_ok H
    clear H
    refine wp_cutn (fun a w_ => ∃ p1654 : (List S_api_Instr), o1651 = .inr (p1654) ∧ ∃ v1655 : Value, Fr a 36 [(5, v1655)] ∧ SL w [] w_ [Sl T_api_Instr v1655 p1654]) ?_ ?_
    · have H := H1652
      refine wp_block ?_
      refine wp_lp (flow_Scan_b0 a0) (fun s1657 a w_ => ∃ v1924 : Value, Fr a 36 [(0, v0), (5, v1924), (6, .int .i64 s1657.2)] ∧ SL w [] w_ [Sl T_api_Instr v1924 s1657.1]) H ?_ ?_
      · exact ⟨(.slice none 0 0), F1115.sub ⟨rfl, rfl, rfl, trivial⟩, (SL.nilSl (T := T_api_Instr) s0)⟩
      · intro s1657 q2060 w2061 hI2062 o2059 H hr
        obtain ⟨v1924, F2057, s2058⟩ := hI2062
        replace H : flow_Scan_b0 a0 s1657 = some o2059 := H
        unfold flow_Scan_b0 at H
        refine wp_seq ?_
        refine wp_seq ?_
        refine wp_reg ?_
        refine st_pr F2057 (PR.op (ex_move rfl) <| PR.op (ex_move rfl) <| PR.op (ex_len rfl Try.underlying22 (formL (rdL hr0 s2058))) <| PR.op (ex_lt rfl rfl) <| PR.nil) fun q2070 F2071 => ?_
        refine st_end ?_
        refine then_n ?_
        refine wp_if F2071 rfl (fun hb2072 => ?_) (fun hb2072 => ?_)
        · replace H := ite_t hb2072 H
          refine wp_skip ?_
          refine then_n ?_
          refine wp_block ?_
          refine wp_seq ?_
          refine wp_reg ?_
          obtain ⟨x2099, hx2100, H⟩ := bind_ok H
          refine st_pr F2071 (PR.op (ex_move rfl) <| PR.op (ex_move rfl) <| PR.nil) fun q2101 F2102 => ?_
          refine st_call (args := [.tmp 17, .tmp 18]) F2102 Fx.fn52 rfl (code_Decode_c (a0 := a0) (a1 := s1657.2)  (hr0.pass0 s2058) hx2100) rfl fun v2103 w2104 q2105 hS2107 F2106 => ?_
          obtain ⟨rfl, hq2109⟩ := hS2107
          have s2108 := s2058.add hq2109
          refine st_pr F2106 (PR.op (ex_move rfl) <| PR.op (ex_extract (v := .agg ⟨[.int .i64 x2099.1.At, .int .u8 (x2099.1.Op.toNat : Int), .int .i64 x2099.1.A, .int .i64 x2099.1.B]⟩) rfl rfl) <| PR.op (ex_extract (v := .int .i64 x2099.2) rfl rfl) <| PR.nil) fun q2110 F2111 => ?_
          refine st_alloc F2111 s2108 Fx.zero90 rfl rfl fun g2112 w2113 q2114 F2115 s2116 => ?_
          have s2122 := s2116
          refine st_storea F2115 s2122 rfl rfl Fx.sz90 (one_cons rfl (one_cons rfl (one_cons rfl (one_cons rfl one_nil)))) (Nat.le_of_ble_eq_true rfl) fun w2118 q2119 F2120 s2121 => ?_
          replace s2121 : SL w [] w2118 [Blk g2112 90 [.int .i64 x2099.1.At, .int .u8 (x2099.1.Op.toNat : Int), .int .i64 x2099.1.A, .int .i64 x2099.1.B], Sl T_api_Instr v1924 s1657.1] := s2121
          refine st_pr F2120 (PR.op (ex_asg rfl) <| PR.nil) fun q2123 F2124 => ?_
          refine st_end ?_
          refine then_n ?_
          refine wp_seq ?_
          refine wp_seq ?_
          refine wp_reg ?_
          refine st_pr F2124 (PR.op (ex_move rfl) <| PR.op (ex_ne rfl rfl) <| PR.nil) fun q2136 F2137 => ?_
          refine st_end ?_
          refine then_n ?_
          refine wp_if F2137 rfl (fun hb2138 => ?_) (fun hb2138 => ?_)
          · replace H := ite_t hb2138 H
            refine wp_seq ?_
            refine wp_reg ?_
            refine st_pr F2137 (PR.op (ex_move rfl) <| PR.op (ex_move rfl) <| PR.op (ex_asg rfl) <| PR.op (ex_asg rfl) <| PR.op (ex_asg rfl) <| PR.nil) fun q2141 F2142 => ?_
            refine st_end ?_
            refine then_n ?_
            obtain rfl := some_ok H
            obtain rfl := hr _ rfl
            replace H := R1653
            dsimp only at H
            obtain rfl := some_ok H
            refine wp_ret ?_
            refine then_r <| blk_r <| then_r <| blk_r <| then_r <| then_r ?_
            refine ret_gen (rs := [.tmp 2, .tmp 3, .tmp 4]) (vs := [.slice none 0 0, .int .i64 s1657.2, .int .i64 x2099.2]) F2142 (by rfl) ⟨_, _, rfl, RV.tmp rfl, _, _, rfl, RV.tmp rfl, _, _, rfl, RV.tmp rfl, rfl⟩ ⟨_, rfl, ⟨(.slice none 0 0), rfl, (SL.nilSl (T := T_api_Instr) s2121).f1.drop.f1.drop⟩⟩
          · replace H := ite_f hb2138 H
            refine wp_skip ?_
            refine then_n ?_
            refine wp_seq ?_
            refine wp_reg ?_
            refine st_pr F2137 (PR.op (ex_move rfl) <| PR.op (ex_ldagg Fx.agg90 rfl (s2121.blk_cells (.head _) (o := 0) (ds := [.int .i64 x2099.1.At, .int .u8 (x2099.1.Op.toNat : Int), .int .i64 x2099.1.A, .int .i64 x2099.1.B]) (fun j u hu => by rw [Nat.zero_add]; exact hu)) rfl) <| PR.nil) fun q2161 F2162 => ?_
            refine st_bslice (parts := [(0, .tmp 27)]) F_api_Instr ([(⟨x2099.1.At, x2099.1.Op, x2099.1.A, x2099.1.B⟩ : S_api_Instr)] : List S_api_Instr) F2162 s2121 Fx.sl67 rfl (by decide) rfl rfl rfl (by simp [Value.cells]) rfl rfl rfl fun v2163 w2164 q2165 F2166 s2167 => ?_
            obtain ⟨x2169, hx2170, H⟩ := bind_ok H
            have s2176 := s2167.f2
            obtain ⟨_, hr_⟩ := (s2176.own_rd (.tail _ <| .head _))
            refine st_append_rd F_api_Instr F2166 s2176 Fx.sl67 rfl rfl rfl rfl hr_ rfl rfl hx2170 rfl fun v2171 w2172 q2173 F2174 s2175 => ?_
            have s2175' := s2175.f1.drop
            refine st_pr F2174 (PR.op (ex_asg rfl) <| PR.nil) fun q2177 F2178 => ?_
            refine st_end ?_
            refine then_n ?_
            refine wp_reg ?_
            obtain ⟨x2179, hx2180, H⟩ := bind_ok H
            refine st_pr F2178 (PR.op (ex_move rfl) <| PR.op (ex_fab Fx.fa90_1 rfl rfl) <| PR.op (ex_ld Fx.nag5 rfl (s2175'.blk_cell (.tail _ <| .head _) rfl)) <| PR.nil) fun q2181 F2182 => ?_
            refine st_call (args := [.tmp 32]) F2182 Fx.fn53 rfl (code_Size_c (a0 := x2099.1.Op)   hx2180) rfl fun v2183 w2184 q2185 hS2187 F2186 => ?_
            obtain ⟨rfl, hq2189⟩ := hS2187
            have s2188 := s2175'.add hq2189
            refine st_pr F2186 (PR.op (ex_add rfl rfl) <| PR.op (ex_asg rfl) <| PR.nil) fun q2190 F2191 => ?_
            refine st_end ?_
            refine blk_n ?_
            obtain rfl := some_ok H
            refine then_n ?_
            exact ⟨_, rfl, v2171, F2191.sub ⟨rfl, rfl, rfl, trivial⟩, s2188.f1.drop⟩
        · replace H := ite_f hb2072 H
          refine wp_exit ?_
          refine then_x <| then_x <| blk_hit ?_
          obtain rfl := some_ok H
          obtain rfl := hr _ rfl
          refine then_n ?_
          exact ⟨_, rfl, v1924, F2071.sub ⟨rfl, trivial⟩, s2058⟩
    · intro q2194 w2195 hJ
      obtain ⟨p1654, rfl, v1655, F2192, s2193⟩ := hJ
      have H := R1653
      clear R1653 H1652
      dsimp only at H
      refine then_n ?_
      refine wp_seq ?_
      refine wp_reg ?_
      refine st_pr F2192 (PR.op (ex_move rfl) <| PR.op (ex_asg rfl) <| PR.op (ex_asg rfl) <| PR.op (ex_asg rfl) <| PR.nil) fun q2198 F2199 => ?_
      refine st_end ?_
      refine then_n ?_
      obtain rfl := some_ok H
      refine wp_ret ?_
      refine ret_gen (rs := [.tmp 2, .tmp 3, .tmp 4]) (vs := [v1655, .int .i64 0, .int .i64 0]) F2199 (by rfl) ⟨_, _, rfl, RV.tmp rfl, _, _, rfl, RV.tmp rfl, _, _, rfl, RV.tmp rfl, rfl⟩ ⟨_, rfl, ⟨v1655, rfl, s2193⟩⟩
end Go.Proofs.Ytmeodoidfpcjlaa
