/- The walk of proviso/provisolaw18.LinkFrees. -/
import Derived.Test.YtmeodoidfpcjlaaFx
import Derived.Test.YtmeodoidfpcjlaaDf
import Derived.Test.YtmeodoidfpcjlaaC16
import Derived.Test.YtmeodoidfpcjlaaC17
import Derived.Test.YtmeodoidfpcjlaaC18
import Derived.Test.YtmeodoidfpcjlaaC19
import Derived.Test.YtmeodoidfpcjlaaC20
import Derived.Test.YtmeodoidfpcjlaaC21
import Derived.Test.YtmeodoidfpcjlaaC22
set_option linter.unusedVariables false
set_option linter.unusedSimpArgs false
namespace Go.Proofs.Ytmeodoidfpcjlaa
open Go Go.RowKit Go.Pv
theorem provisolaw18_LinkFrees_c {w : World} {v0_1 v0_2 v0_3 v0_4 : Value} {a0 : S_api_Part} {r : Bool} (hr0_1 : Rd T_api_Class w [] v0_1 a0.Module.Classes) (hr0_2 : Rd T_api_Func w [] v0_2 a0.Module.Funcs) (hr0_3 : Rd (Ty.slice Ty.u8) w [] v0_3 a0.Module.Certs) (hr0_4 : Rd T_api_Import w [] v0_4 a0.Imports) (H : provisolaw18_LinkFrees a0 = some r) :
    Calls Try.prog 4 #[.agg ⟨[.string ⟨⟨a0.Module.Name⟩⟩, v0_1, v0_2, v0_3, v0_4]⟩] w (Ret fun u_ w_ => u_ = .bool r ∧ SL w [] w_ []) := by
  have s0 : SL w [] w [] := SL.init0 w
  refine call_enter Try.func4 rfl Try.ntmps4 (Nat.le_of_ble_eq_true rfl) (args := [.agg ⟨[.string ⟨⟨a0.Module.Name⟩⟩, v0_1, v0_2, v0_3, v0_4]⟩]) fun q0 F0 => ?_
  unfold provisolaw18_LinkFrees at H
  refine wp_seq ?_
  refine wp_reg ?_
  refine st_box F0 s0 rfl rfl rfl fun g9 w10 q11 F12 s13 => ?_
  refine st_pr F12 (PR.op (ex_asg rfl) <| PR.nil) fun q15 F16 => ?_
  refine st_end ?_
  refine then_n ?_
  refine wp_seq ?_
  refine wp_reg ?_
  obtain ⟨x47, hx48, H⟩ := bind_ok H
  refine st_pr F16 (PR.op (ex_ldagg Fx.agg46 rfl (s13.blk_cells (.head _) (o := 0) (ds := [.string ⟨⟨a0.Module.Name⟩⟩, v0_1, v0_2, v0_3, v0_4]) (fun j u hu => by rw [Nat.zero_add]; exact hu)) rfl) <| PR.nil) fun q49 F50 => ?_
  refine st_call (args := [.tmp 14]) F50 Fx.fn16 rfl (provisolaw18_part_c (a0 := (⟨(⟨a0.Module.Name, a0.Module.Classes, a0.Module.Funcs, a0.Module.Certs⟩ : S_api_Module), a0.Imports⟩ : S_api_Part))  (hr0_1.pass0 s13) (hr0_2.pass0 s13) (hr0_3.pass0 s13) (hr0_4.pass0 s13) hx48) rfl fun v51 w52 q53 hS55 F54 => ?_
  obtain ⟨v58, v60, v62, v64, rfl, hq57⟩ := hS55
  have s56 := s13.add hq57
  refine st_alloc F54 s56 Fx.zero46 rfl rfl fun g66 w67 q68 F69 s70 => ?_
  have s76 := s70
  refine st_storea F69 s76 rfl rfl Fx.sz46 (one_cons rfl (one_cons (form_one (formL (s76.own_rd (.tail _ <| .head _)))) (one_cons (form_one (formL (s76.own_rd (.tail _ <| .tail _ <| .head _)))) (one_cons (form_one (formL (s76.own_rd (.tail _ <| .tail _ <| .tail _ <| .head _)))) (one_cons (form_one (formL (s76.own_rd (.tail _ <| .tail _ <| .tail _ <| .tail _ <| .head _)))) one_nil))))) (Nat.le_of_ble_eq_true rfl) fun w72 q73 F74 s75 => ?_
  replace s75 : SL w [] w72 [Blk g66 46 [.string ⟨⟨x47.Module.Name⟩⟩, v58, v60, v62, v64], Sl T_api_Class v58 x47.Module.Classes, Sl T_api_Func v60 x47.Module.Funcs, Sl (Ty.slice Ty.u8) v62 x47.Module.Certs, Sl T_api_Import v64 x47.Imports, Blk g9 46 [.string ⟨⟨a0.Module.Name⟩⟩, v0_1, v0_2, v0_3, v0_4]] := s75
  refine st_end ?_
  refine then_n ?_
  refine wp_seq ?_
  refine wp_reg ?_
  obtain ⟨x107, hx108, H⟩ := bind_ok H
  refine st_pr F74 (PR.op (ex_fab Fx.fa46_0 rfl rfl) <| PR.op (ex_ldagg Fx.agg43 rfl (s75.blk_cells (.head _) (o := 0) (ds := [.string ⟨⟨x47.Module.Name⟩⟩, v58, v60, v62]) (subcells _ rfl)) rfl) <| PR.nil) fun q109 F110 => ?_
  refine st_call (args := [.tmp 17]) F110 Fx.fn17 rfl (link_Alone_c (a0 := (⟨x47.Module.Name, x47.Module.Classes, x47.Module.Funcs, x47.Module.Certs⟩ : S_api_Module))  (s75.rd0 (.tail _ <| .head _)) (s75.rd0 (.tail _ <| .tail _ <| .head _)) (s75.rd0 (.tail _ <| .tail _ <| .tail _ <| .head _)) hx108) rfl fun v111 w112 q113 hS115 F114 => ?_
  obtain ⟨v118, v120, v122, v124, rfl, hq117⟩ := hS115
  have s116 := s75.add hq117
  refine st_alloc F114 s116 Fx.zero46 rfl rfl fun g126 w127 q128 F129 s130 => ?_
  have s136 := s130
  refine st_storea F129 s136 rfl rfl Fx.sz46 (one_cons rfl (one_cons (form_one (formL (s136.own_rd (.tail _ <| .head _)))) (one_cons (form_one (formL (s136.own_rd (.tail _ <| .tail _ <| .head _)))) (one_cons (form_one (formL (s136.own_rd (.tail _ <| .tail _ <| .tail _ <| .head _)))) (one_cons (form_one (formL (s136.own_rd (.tail _ <| .tail _ <| .tail _ <| .tail _ <| .head _)))) one_nil))))) (Nat.le_of_ble_eq_true rfl) fun w132 q133 F134 s135 => ?_
  replace s135 : SL w [] w132 [Blk g126 46 [.string ⟨⟨x107.Module.Name⟩⟩, v118, v120, v122, v124], Sl T_api_Class v118 x107.Module.Classes, Sl T_api_Func v120 x107.Module.Funcs, Sl (Ty.slice Ty.u8) v122 x107.Module.Certs, Sl T_api_Import v124 x107.Imports, Blk g66 46 [.string ⟨⟨x47.Module.Name⟩⟩, v58, v60, v62, v64], Sl T_api_Class v58 x47.Module.Classes, Sl T_api_Func v60 x47.Module.Funcs, Sl (Ty.slice Ty.u8) v62 x47.Module.Certs, Sl T_api_Import v64 x47.Imports, Blk g9 46 [.string ⟨⟨a0.Module.Name⟩⟩, v0_1, v0_2, v0_3, v0_4]] := s135
  refine st_end ?_
  refine then_n ?_
  refine wp_seq ?_
  refine wp_reg ?_
  obtain ⟨x165, hx166, H⟩ := bind_ok H
  refine st_pr F134 (PR.op (ex_fab Fx.fa46_0 rfl rfl) <| PR.op (ex_ldagg Fx.agg43 rfl (s135.blk_cells (.tail _ <| .tail _ <| .tail _ <| .tail _ <| .tail _ <| .tail _ <| .tail _ <| .tail _ <| .tail _ <| .tail _ <| .head _) (o := 0) (ds := [.string ⟨⟨a0.Module.Name⟩⟩, v0_1, v0_2, v0_3]) (subcells _ rfl)) rfl) <| PR.nil) fun q167 F168 => ?_
  refine st_call (args := [.tmp 20]) F168 Fx.fn18 rfl (provisoplain_Module_c (a0 := (⟨a0.Module.Name, a0.Module.Classes, a0.Module.Funcs, a0.Module.Certs⟩ : S_api_Module))  (hr0_1.pass0 s135) (hr0_2.pass0 s135) (hr0_3.pass0 s135) hx166) rfl fun v169 w170 q171 hS173 F172 => ?_
  obtain ⟨v176, v178, v180, rfl, hq175⟩ := hS173
  have s174 := s135.add hq175
  refine st_alloc F172 s174 Fx.zero43 rfl rfl fun g182 w183 q184 F185 s186 => ?_
  have s192 := s186
  refine st_storea F185 s192 rfl rfl Fx.sz43 (one_cons rfl (one_cons (form_one (formL (s192.own_rd (.tail _ <| .head _)))) (one_cons (form_one (formL (s192.own_rd (.tail _ <| .tail _ <| .head _)))) (one_cons (form_one (formL (s192.own_rd (.tail _ <| .tail _ <| .tail _ <| .head _)))) one_nil)))) (Nat.le_of_ble_eq_true rfl) fun w188 q189 F190 s191 => ?_
  replace s191 : SL w [] w188 [Blk g182 43 [.string ⟨⟨x165.Name⟩⟩, v176, v178, v180], Sl T_api_Class v176 x165.Classes, Sl T_api_Func v178 x165.Funcs, Sl (Ty.slice Ty.u8) v180 x165.Certs, Blk g126 46 [.string ⟨⟨x107.Module.Name⟩⟩, v118, v120, v122, v124], Sl T_api_Class v118 x107.Module.Classes, Sl T_api_Func v120 x107.Module.Funcs, Sl (Ty.slice Ty.u8) v122 x107.Module.Certs, Sl T_api_Import v124 x107.Imports, Blk g66 46 [.string ⟨⟨x47.Module.Name⟩⟩, v58, v60, v62, v64], Sl T_api_Class v58 x47.Module.Classes, Sl T_api_Func v60 x47.Module.Funcs, Sl (Ty.slice Ty.u8) v62 x47.Module.Certs, Sl T_api_Import v64 x47.Imports, Blk g9 46 [.string ⟨⟨a0.Module.Name⟩⟩, v0_1, v0_2, v0_3, v0_4]] := s191
  refine st_end ?_
  refine then_n ?_
  refine wp_seq ?_
  refine wp_reg ?_
  refine st_pr F190 (PR.op (ex_fab Fx.fa43_3 rfl rfl) <| PR.nil) fun q200 F201 => ?_
  have s206 := s191
  refine st_store F201 s206 rfl rfl Fx.sz29 (form_cells ⟨none, 0, rfl⟩) (form_one ⟨none, 0, rfl⟩) rfl fun w202 q203 F204 s205 => ?_
  replace s205 : SL w [] w202 [Blk g182 43 [.string ⟨⟨x165.Name⟩⟩, v176, v178, .slice none 0 0], Sl T_api_Class v176 x165.Classes, Sl T_api_Func v178 x165.Funcs, Sl (Ty.slice Ty.u8) v180 x165.Certs, Blk g126 46 [.string ⟨⟨x107.Module.Name⟩⟩, v118, v120, v122, v124], Sl T_api_Class v118 x107.Module.Classes, Sl T_api_Func v120 x107.Module.Funcs, Sl (Ty.slice Ty.u8) v122 x107.Module.Certs, Sl T_api_Import v124 x107.Imports, Blk g66 46 [.string ⟨⟨x47.Module.Name⟩⟩, v58, v60, v62, v64], Sl T_api_Class v58 x47.Module.Classes, Sl T_api_Func v60 x47.Module.Funcs, Sl (Ty.slice Ty.u8) v62 x47.Module.Certs, Sl T_api_Import v64 x47.Imports, Blk g9 46 [.string ⟨⟨a0.Module.Name⟩⟩, v0_1, v0_2, v0_3, v0_4]] := s205
  refine st_end ?_
  refine then_n ?_
  refine wp_seq ?_
  refine wp_seq ?_
  refine wp_reg ?_
  have hv257 := (formL (s205.own_rd (.tail _ <| .head _)))
  have hv258 := (formL (s205.own_rd (.tail _ <| .tail _ <| .head _)))
  obtain ⟨x259, hx260, H⟩ := bind_ok H
  refine st_pr F204 (PR.op (ex_ldagg Fx.agg46 rfl (s205.blk_cells (.tail _ <| .tail _ <| .tail _ <| .tail _ <| .head _) (o := 0) (ds := [.string ⟨⟨x107.Module.Name⟩⟩, v118, v120, v122, v124]) (fun j u hu => by rw [Nat.zero_add]; exact hu)) rfl) <| PR.op (ex_ldagg Fx.agg43 rfl (s205.blk_cells (.head _) (o := 0) (ds := [.string ⟨⟨x165.Name⟩⟩, v176, v178, .slice none 0 0]) (fun j u hu => by rw [Nat.zero_add]; exact hu)) rfl) <| PR.op (ex_build (vs := [.agg ⟨[.string ⟨⟨x165.Name⟩⟩, v176, v178, .slice none 0 0]⟩]) Fx.zero46 Fx.pl46 rfl (cs := [.string ⟨⟨x165.Name⟩⟩, v176, v178, .slice none 0 0, .slice none 0 0]) (by obtain ⟨_, _, e_0⟩ := hv257; obtain ⟨_, _, e_1⟩ := hv258; rw [e_0, e_1] <;> rfl)) <| PR.nil) fun q261 F262 => ?_
  refine st_call (args := [.tmp 23, .tmp 25]) F262 Fx.fn19 rfl (provisolaw18_samePart_c (a0 := (⟨(⟨x107.Module.Name, x107.Module.Classes, x107.Module.Funcs, x107.Module.Certs⟩ : S_api_Module), x107.Imports⟩ : S_api_Part)) (a1 := (⟨(⟨x165.Name, x165.Classes, x165.Funcs, []⟩ : S_api_Module), []⟩ : S_api_Part))  (s205.rd0 (.tail _ <| .tail _ <| .tail _ <| .tail _ <| .tail _ <| .head _)) (s205.rd0 (.tail _ <| .tail _ <| .tail _ <| .tail _ <| .tail _ <| .tail _ <| .head _)) (s205.rd0 (.tail _ <| .tail _ <| .tail _ <| .tail _ <| .tail _ <| .tail _ <| .tail _ <| .head _)) (s205.rd0 (.tail _ <| .tail _ <| .tail _ <| .tail _ <| .tail _ <| .tail _ <| .tail _ <| .tail _ <| .head _)) (s205.rd0 (.tail _ <| .head _)) (s205.rd0 (.tail _ <| .tail _ <| .head _)) Rd.nil_ Rd.nil_ hx260) rfl fun v263 w264 q265 hS267 F266 => ?_
  obtain ⟨rfl, hq269⟩ := hS267
  have s268 := s205.add hq269
  refine st_pr F266 (PR.op (ex_not rfl) <| PR.nil) fun q270 F271 => ?_
  refine st_end ?_
  refine then_n ?_
  refine wp_if F271 rfl (fun hb272 => ?_) (fun hb272 => ?_)
  · replace H := ite_t hb272 H
    refine wp_seq ?_
    refine wp_reg ?_
    refine st_pr F271 (PR.op (ex_asg rfl) <| PR.nil) fun q275 F276 => ?_
    refine st_end ?_
    refine then_n ?_
    obtain rfl := some_ok H
    refine wp_ret ?_
    refine then_r ?_
    refine ret_gen (rs := [.tmp 2]) (vs := [.bool false]) F276 (by rfl) ⟨_, _, rfl, RV.tmp rfl, rfl⟩ ⟨_, rfl, ⟨rfl, s268.drop.drop.drop.drop.drop.drop.drop.drop.drop.drop.drop.drop.drop.drop.drop⟩⟩
  · replace H := ite_f hb272 H
    refine wp_skip ?_
    refine then_n ?_
    refine wp_seq ?_
    refine wp_seq ?_
    refine wp_reg ?_
    refine st_pr F271 (PR.op (ex_fab Fx.fa46_0 rfl rfl) <| PR.op (ex_fab Fx.fa43_2 rfl rfl) <| PR.op (ex_ld Fx.nag41 rfl (s268.blk_cell (.tail _ <| .tail _ <| .tail _ <| .tail _ <| .head _) rfl)) <| PR.op (ex_len rfl Try.underlying41 (formL (s268.own_rd (.tail _ <| .tail _ <| .tail _ <| .tail _ <| .tail _ <| .tail _ <| .head _)))) <| PR.op (ex_move rfl) <| PR.nil) fun q11558 F11559 => ?_
    refine st_end ?_
    refine then_n ?_
    obtain ⟨o17193, H17194, R17195⟩ := bind_ok H
    clear H
    refine wp_cutn (fun a w_ => ∃ v17196 : Value, Fr a 87 [(1, .pointer (some ⟨g9, 0, none⟩)), (3, .pointer (some ⟨g66, 0, none⟩))] ∧ SL w [] w_ [Sl T_api_Class v118 x107.Module.Classes, Sl (Ty.slice Ty.u8) v122 x107.Module.Certs, Sl T_api_Import v124 x107.Imports, Blk g66 46 [.string ⟨⟨x47.Module.Name⟩⟩, v58, v60, v62, v64], Sl T_api_Class v58 x47.Module.Classes, Sl T_api_Func v60 x47.Module.Funcs, Sl (Ty.slice Ty.u8) v62 x47.Module.Certs, Sl T_api_Import v64 x47.Imports, Blk g9 46 [.string ⟨⟨a0.Module.Name⟩⟩, v0_1, v0_2, v0_3, v0_4], Sl T_api_Func v17196 o17193]) ?_ ?_
    · have H := H17194
      refine wp_block ?_
      refine wp_lp (provisolaw18_LinkFrees_b1 x107) (fun s17198 a w_ => ∃ v20013 : Value, Fr a 87 [(1, .pointer (some ⟨g9, 0, none⟩)), (3, .pointer (some ⟨g66, 0, none⟩)), (4, .pointer (some ⟨g126, 0, none⟩)), (31, .int .i64 (x107.Module.Funcs.length : Int)), (32, .int .i64 s17198.2)] ∧ SL w [] w_ [Blk g126 46 [.string ⟨⟨x107.Module.Name⟩⟩, v118, v20013, v122, v124], Sl T_api_Class v118 x107.Module.Classes, Sl (Ty.slice Ty.u8) v122 x107.Module.Certs, Sl T_api_Import v124 x107.Imports, Blk g66 46 [.string ⟨⟨x47.Module.Name⟩⟩, v58, v60, v62, v64], Sl T_api_Class v58 x47.Module.Classes, Sl T_api_Func v60 x47.Module.Funcs, Sl (Ty.slice Ty.u8) v62 x47.Module.Certs, Sl T_api_Import v64 x47.Imports, Blk g9 46 [.string ⟨⟨a0.Module.Name⟩⟩, v0_1, v0_2, v0_3, v0_4], Sl T_api_Func v20013 s17198.1]) H ?_ ?_
      · exact ⟨v120, F11559.sub ⟨rfl, rfl, rfl, rfl, rfl, trivial⟩, s268.drop.drop.drop.drop.f2.f10.f10.f10.f10.f10.f10.f10.f10.f10.f10⟩
      · intro s17198 q21424 w21425 hI21426 o21423 H hr
        obtain ⟨v20013, F21421, s21422⟩ := hI21426
        replace H : provisolaw18_LinkFrees_b1 x107 s17198 = some o21423 := H
        unfold provisolaw18_LinkFrees_b1 at H
        refine wp_seq ?_
        refine wp_reg ?_
        refine st_pr F21421 (PR.op (ex_lt rfl rfl) <| PR.nil) fun q21429 F21430 => ?_
        refine st_end ?_
        refine then_n ?_
        refine wp_seq ?_
        refine wp_if F21430 rfl (fun hb21432 => ?_) (fun hb21432 => ?_)
        · replace H := ite_t hb21432 H
          refine wp_skip ?_
          refine then_n ?_
          refine wp_seq ?_
          refine wp_block ?_
          refine wp_seq ?_
          refine wp_reg ?_
          refine st_pr F21430 (PR.op (ex_move rfl) <| PR.op (ex_asg rfl) <| PR.nil) fun q22133 F22134 => ?_
          refine st_end ?_
          refine then_n ?_
          refine wp_seq ?_
          refine wp_reg ?_
          obtain ⟨x22156, hx22157, H⟩ := bind_ok H
          refine st_pr F22134 (PR.op (ex_fab Fx.fa46_0 rfl rfl) <| PR.op (ex_fab Fx.fa43_2 rfl rfl) <| PR.op (ex_ld Fx.nag41 rfl (s21422.blk_cell (.head _) rfl)) <| PR.op (ex_move rfl) <| PR.nil) fun q22161 F22162 => ?_
          obtain ⟨cs22163, A22164, c22165, hv22166, s22167⟩ := SL.focus s21422.f10 hx22157
          obtain ⟨v22171, v22173, rfl, s22168⟩ := O_api_Func s22167.f1
          refine st_op F22162 (ex_ixfoc Fx.sl41 hv22166 (idx_some hx22157).1 (idx_some hx22157).2.1 rfl rfl) rfl rfl rfl fun q22169 F22170 => ?_
          refine st_pr F22170 (PR.op (ex_fa Fx.fa56_3 rfl) <| PR.op (ex_ld Fx.nag22 rfl (Cells.at_ (SL.foc_cells s22168 (.tail _ <| .tail _ <| .head _) hv22166) (o := 4) rfl)) <| PR.op (ex_len rfl Try.underlying22 (formL (s22168.own_rd (.tail _ <| .head _)))) <| PR.op (ex_move rfl) <| PR.nil) fun q22175 F22176 => ?_
          refine st_end ?_
          refine then_n ?_
          have s22177 : SL w [] _ [Sl T_api_Func v20013 (s17198.1.set s17198.2.toNat (⟨x22156.Name, (⟨x22156.Sig.Params, x22156.Sig.Result⟩ : S_api_Sig), x22156.Locals, x22156.Code⟩ : S_api_Func)), Blk g126 46 [.string ⟨⟨x107.Module.Name⟩⟩, v118, v20013, v122, v124], Sl T_api_Class v118 x107.Module.Classes, Sl (Ty.slice Ty.u8) v122 x107.Module.Certs, Sl T_api_Import v124 x107.Imports, Blk g66 46 [.string ⟨⟨x47.Module.Name⟩⟩, v58, v60, v62, v64], Sl T_api_Class v58 x47.Module.Classes, Sl T_api_Func v60 x47.Module.Funcs, Sl (Ty.slice Ty.u8) v62 x47.Module.Certs, Sl T_api_Import v64 x47.Imports, Blk g9 46 [.string ⟨⟨a0.Module.Name⟩⟩, v0_1, v0_2, v0_3, v0_4]] := (SL.unfocus (SL.diso (f := t_api_Func) (x := (⟨x22156.Name, (⟨x22156.Sig.Params, x22156.Sig.Result⟩ : S_api_Sig), x22156.Locals, x22156.Code⟩ : S_api_Func)) (SL.dpair (SL.dflat (SL.dpair (SL.diso (f := t_api_Sig) (x := (⟨x22156.Sig.Params, x22156.Sig.Result⟩ : S_api_Sig)) (SL.dpair (SL.dsl (SL.dflat (SL.dpair (SL.dflat (SL.dsl s22168.f1) (Flat.int .i64) x22156.Locals)) Flat.u8 x22156.Sig.Result).f2)))) Flat.str x22156.Name))).f1)
          obtain ⟨o22499, H22500, R22501⟩ := bind_ok H
          clear H
          refine wp_cutn (fun a w_ => ∃ v22502 : Value, Fr a 87 [(1, .pointer (some ⟨g9, 0, none⟩)), (3, .pointer (some ⟨g66, 0, none⟩)), (4, .pointer (some ⟨g126, 0, none⟩)), (31, .int .i64 (x107.Module.Funcs.length : Int)), (32, .int .i64 s17198.2)] ∧ SL w [] w_ [Blk g126 46 [.string ⟨⟨x107.Module.Name⟩⟩, v118, v22502, v122, v124], Sl T_api_Class v118 x107.Module.Classes, Sl (Ty.slice Ty.u8) v122 x107.Module.Certs, Sl T_api_Import v124 x107.Imports, Blk g66 46 [.string ⟨⟨x47.Module.Name⟩⟩, v58, v60, v62, v64], Sl T_api_Class v58 x47.Module.Classes, Sl T_api_Func v60 x47.Module.Funcs, Sl (Ty.slice Ty.u8) v62 x47.Module.Certs, Sl T_api_Import v64 x47.Imports, Blk g9 46 [.string ⟨⟨a0.Module.Name⟩⟩, v0_1, v0_2, v0_3, v0_4], Sl T_api_Func v22502 o22499]) ?_ ?_
          · have H := H22500
            refine wp_block ?_
            refine wp_lp (provisolaw18_LinkFrees_b0 s17198 x22156) (fun s22504 a w_ => ∃ v22663 : Value, Fr a 87 [(1, .pointer (some ⟨g9, 0, none⟩)), (3, .pointer (some ⟨g66, 0, none⟩)), (4, .pointer (some ⟨g126, 0, none⟩)), (6, .int .i64 s17198.2), (31, .int .i64 (x107.Module.Funcs.length : Int)), (32, .int .i64 s17198.2), (42, .int .i64 (x22156.Code.length : Int)), (43, .int .i64 s22504.2)] ∧ SL w [] w_ [Blk g126 46 [.string ⟨⟨x107.Module.Name⟩⟩, v118, v22663, v122, v124], Sl T_api_Class v118 x107.Module.Classes, Sl (Ty.slice Ty.u8) v122 x107.Module.Certs, Sl T_api_Import v124 x107.Imports, Blk g66 46 [.string ⟨⟨x47.Module.Name⟩⟩, v58, v60, v62, v64], Sl T_api_Class v58 x47.Module.Classes, Sl T_api_Func v60 x47.Module.Funcs, Sl (Ty.slice Ty.u8) v62 x47.Module.Certs, Sl T_api_Import v64 x47.Imports, Blk g9 46 [.string ⟨⟨a0.Module.Name⟩⟩, v0_1, v0_2, v0_3, v0_4], Sl T_api_Func v22663 s22504.1]) H ?_ ?_
            · exact ⟨v20013, F22176.sub ⟨rfl, rfl, rfl, rfl, rfl, rfl, rfl, rfl, trivial⟩, s22177.f10.f10.f10.f10.f10.f10.f10.f10.f10.f10⟩
            · intro s22504 q22746 w22747 hI22748 o22745 H hr
              obtain ⟨v22663, F22743, s22744⟩ := hI22748
              replace H : provisolaw18_LinkFrees_b0 s17198 x22156 s22504 = some o22745 := H
              unfold provisolaw18_LinkFrees_b0 at H
              refine wp_seq ?_
              refine wp_reg ?_
              refine st_pr F22743 (PR.op (ex_lt rfl rfl) <| PR.nil) fun q22751 F22752 => ?_
              refine st_end ?_
              refine then_n ?_
              refine wp_seq ?_
              refine wp_if F22752 rfl (fun hb22754 => ?_) (fun hb22754 => ?_)
              · replace H := ite_t hb22754 H
                refine wp_skip ?_
                refine then_n ?_
                refine wp_seq ?_
                refine wp_block ?_
                refine wp_seq ?_
                refine wp_reg ?_
                refine st_pr F22752 (PR.op (ex_move rfl) <| PR.op (ex_asg rfl) <| PR.nil) fun q22791 F22792 => ?_
                refine st_end ?_
                refine then_n ?_
                refine wp_reg ?_
                obtain ⟨x22793, hx22794, H⟩ := bind_ok H
                refine st_pr F22792 (PR.op (ex_fab Fx.fa46_0 rfl rfl) <| PR.op (ex_fab Fx.fa43_2 rfl rfl) <| PR.op (ex_ld Fx.nag41 rfl (s22744.blk_cell (.head _) rfl)) <| PR.op (ex_move rfl) <| PR.nil) fun q22798 F22799 => ?_
                obtain ⟨cs22800, A22801, c22802, hv22803, s22804⟩ := SL.focus s22744.f10 hx22794
                obtain ⟨v22808, v22810, rfl, s22805⟩ := O_api_Func s22804.f1
                refine st_op F22799 (ex_ixfoc Fx.sl41 hv22803 (idx_some hx22794).1 (idx_some hx22794).2.1 rfl rfl) rfl rfl rfl fun q22806 F22807 => ?_
                obtain ⟨x22812, hx22813, H⟩ := bind_ok H
                obtain ⟨ad22814, hi22815, he22816⟩ := own_idx Flat.u8 s22805 (.tail _ <| .head _) Fx.sl22 rfl hx22813
                refine st_pr F22807 (PR.op (ex_fa Fx.fa56_3 rfl) <| PR.op (ex_ld Fx.nag22 rfl (Cells.at_ (SL.foc_cells s22805 (.tail _ <| .tail _ <| .head _) hv22803) (o := 4) rfl)) <| PR.op (ex_move rfl) <| PR.op (hi22815 _ _ _ _ _ _ _ _ _ _ rfl rfl) <| PR.nil) fun q22817 F22818 => ?_
                refine st_setel (y' := (255 : UInt8)) Flat.u8 F22818 s22805.f1 he22816 hx22813 rfl rfl (by rfl) Fx.sz5 fun w22819 q22820 F22821 s22822 => ?_
                refine st_end ?_
                refine blk_n ?_
                refine then_n ?_
                refine wp_reg ?_
                refine st_pr F22821 (PR.op (ex_add rfl rfl) <| PR.op (ex_move rfl) <| PR.nil) fun q22823 F22824 => ?_
                refine st_end ?_
                obtain rfl := some_ok H
                refine then_n ?_
                exact ⟨_, rfl, v22663, F22824.sub ⟨rfl, rfl, rfl, rfl, rfl, rfl, rfl, rfl, trivial⟩, (SL.unfocus (SL.diso (f := t_api_Func) (x := (⟨x22793.Name, (⟨x22793.Sig.Params, x22793.Sig.Result⟩ : S_api_Sig), x22793.Locals, (x22793.Code.set s22504.2.toNat (255 : UInt8))⟩ : S_api_Func)) (SL.dpair (SL.dflat (SL.dpair (SL.diso (f := t_api_Sig) (x := (⟨x22793.Sig.Params, x22793.Sig.Result⟩ : S_api_Sig)) (SL.dpair (SL.dsl (SL.dflat (SL.dpair (SL.dflat (SL.dsl s22822) (Flat.int .i64) x22793.Locals)) Flat.u8 x22793.Sig.Result).f2)))) Flat.str x22793.Name))).f1).f10.f10.f10.f10.f10.f10.f10.f10.f10.f10⟩
              · replace H := ite_f hb22754 H
                refine wp_exit ?_
                refine then_x <| then_x <| blk_hit ?_
                obtain rfl := some_ok H
                obtain rfl := hr _ rfl
                refine then_n ?_
                exact ⟨v22663, F22752.sub ⟨rfl, rfl, rfl, rfl, rfl, trivial⟩, s22744⟩
          · intro q22827 w22828 hJ
            obtain ⟨v22502, F22825, s22826⟩ := hJ
            have H := R22501
            clear R22501 H22500
            refine blk_n ?_
            refine then_n ?_
            refine wp_reg ?_
            refine st_pr F22825 (PR.op (ex_add rfl rfl) <| PR.op (ex_move rfl) <| PR.nil) fun q22829 F22830 => ?_
            refine st_end ?_
            obtain rfl := some_ok H
            refine then_n ?_
            exact ⟨_, rfl, v22502, F22830.sub ⟨rfl, rfl, rfl, rfl, rfl, trivial⟩, s22826⟩
        · replace H := ite_f hb21432 H
          refine wp_exit ?_
          refine then_x <| then_x <| blk_hit ?_
          obtain rfl := some_ok H
          obtain rfl := hr _ rfl
          refine then_n ?_
          exact ⟨v20013, F21430.sub ⟨rfl, rfl, trivial⟩, s21422.drop⟩
    · intro q22833 w22834 hJ
      obtain ⟨v17196, F22831, s22832⟩ := hJ
      have H := R17195
      clear R17195 H17194
      refine then_n ?_
      refine wp_seq ?_
      refine wp_reg ?_
      obtain ⟨x22850, hx22851, H⟩ := bind_ok H
      refine st_pr F22831 (PR.op (ex_ldagg Fx.agg46 rfl (s22832.blk_cells (.tail _ <| .tail _ <| .tail _ <| .head _) (o := 0) (ds := [.string ⟨⟨x47.Module.Name⟩⟩, v58, v60, v62, v64]) (fun j u hu => by rw [Nat.zero_add]; exact hu)) rfl) <| PR.nil) fun q22852 F22853 => ?_
      refine st_call (args := [.tmp 58]) F22853 Fx.fn20 rfl (link_Free_c (a0 := (⟨(⟨x47.Module.Name, x47.Module.Classes, x47.Module.Funcs, x47.Module.Certs⟩ : S_api_Module), x47.Imports⟩ : S_api_Part))  (s22832.rd0 (.tail _ <| .tail _ <| .tail _ <| .tail _ <| .head _)) (s22832.rd0 (.tail _ <| .tail _ <| .tail _ <| .tail _ <| .tail _ <| .head _)) (s22832.rd0 (.tail _ <| .tail _ <| .tail _ <| .tail _ <| .tail _ <| .tail _ <| .head _)) (s22832.rd0 (.tail _ <| .tail _ <| .tail _ <| .tail _ <| .tail _ <| .tail _ <| .tail _ <| .head _)) hx22851) rfl fun v22854 w22855 q22856 hS22858 F22857 => ?_
      obtain ⟨v22861, rfl, hq22860⟩ := hS22858
      have s22859 := s22832.add hq22860
      refine st_pr F22857 (PR.op (ex_move rfl) <| PR.op (ex_extract (v := v22861) rfl rfl) <| PR.op (ex_extract (v := .int .i64 x22850.2.1) rfl rfl) <| PR.op (ex_extract (v := .int .i64 x22850.2.2) rfl rfl) <| PR.op (ex_asg rfl) <| PR.op (ex_asg rfl) <| PR.op (ex_asg rfl) <| PR.nil) fun q22863 F22864 => ?_
      refine st_end ?_
      refine then_n ?_
      refine wp_seq ?_
      refine wp_reg ?_
      obtain ⟨x22880, hx22881, H⟩ := bind_ok H
      refine st_pr F22864 (PR.op (ex_ldagg Fx.agg46 rfl (s22859.blk_cells (.tail _ <| .tail _ <| .tail _ <| .tail _ <| .tail _ <| .tail _ <| .tail _ <| .tail _ <| .tail _ <| .head _) (o := 0) (ds := [.string ⟨⟨a0.Module.Name⟩⟩, v0_1, v0_2, v0_3, v0_4]) (fun j u hu => by rw [Nat.zero_add]; exact hu)) rfl) <| PR.nil) fun q22882 F22883 => ?_
      refine st_call (args := [.tmp 64]) F22883 Fx.fn21 rfl (provisoref18_Free_c (a0 := (⟨(⟨a0.Module.Name, a0.Module.Classes, a0.Module.Funcs, a0.Module.Certs⟩ : S_api_Module), a0.Imports⟩ : S_api_Part))  (hr0_1.pass0 s22859) (hr0_2.pass0 s22859) (hr0_3.pass0 s22859) (hr0_4.pass0 s22859) hx22881) rfl fun v22884 w22885 q22886 hS22888 F22887 => ?_
      obtain ⟨v22891, rfl, hq22890⟩ := hS22888
      have s22889 := s22859.add hq22890
      refine st_pr F22887 (PR.op (ex_move rfl) <| PR.op (ex_extract (v := v22891) rfl rfl) <| PR.op (ex_extract (v := .int .i64 x22880.2.1) rfl rfl) <| PR.op (ex_extract (v := .int .i64 x22880.2.2) rfl rfl) <| PR.op (ex_asg rfl) <| PR.op (ex_asg rfl) <| PR.op (ex_asg rfl) <| PR.nil) fun q22893 F22894 => ?_
      refine st_end ?_
      refine then_n ?_
      refine wp_seq ?_
      refine wp_reg ?_
      obtain ⟨x22990, hx22991, H⟩ := bind_ok H
      refine st_pr F22894 (PR.op (ex_move rfl) <| PR.op (ex_move rfl) <| PR.nil) fun q22992 F22993 => ?_
      refine st_call (args := [.tmp 69, .tmp 70]) F22993 Fx.fn22 rfl (slices_Equal_int_int_c (a0 := x22850.1) (a1 := x22880.1)  (s22889.rd0 (.tail _ <| .head _)) (s22889.rd0 (.head _)) hx22991) rfl fun v22994 w22995 q22996 hS22998 F22997 => ?_
      obtain ⟨rfl, hq23000⟩ := hS22998
      have s22999 := s22889.add hq23000
      refine st_pr F22997 (PR.op (ex_move rfl) <| PR.nil) fun q23001 F23002 => ?_
      refine bool_split x22990 (fun hb23003 => ?_) (fun hb23003 => ?_)
      · replace H := ite_t hb23003 H
        refine st_gop F23002 rfl rfl (look_b rfl hb23003) (ex_move rfl) rfl rfl fun q23004 F23005 => ?_
        refine st_gop F23005 rfl rfl (look_b rfl hb23003) (ex_move rfl) rfl rfl fun q23006 F23007 => ?_
        refine st_gop F23007 rfl rfl (look_b rfl hb23003) (ex_eq rfl rfl) rfl rfl fun q23008 F23009 => ?_
        refine st_pr F23009 (PR.op (ex_pick_t (ev_b rfl hb23003) rfl) <| PR.op (ex_move rfl) <| PR.nil) fun q23010 F23011 => ?_
        refine bool_split (x22850.2.1 == x22880.2.1) (fun hb23012 => ?_) (fun hb23012 => ?_)
        · replace H := ite_t hb23012 H
          refine st_gop F23011 rfl rfl (look_b rfl hb23012) (ex_move rfl) rfl rfl fun q23013 F23014 => ?_
          refine st_gop F23014 rfl rfl (look_b rfl hb23012) (ex_move rfl) rfl rfl fun q23015 F23016 => ?_
          refine st_gop F23016 rfl rfl (look_b rfl hb23012) (ex_eq rfl rfl) rfl rfl fun q23017 F23018 => ?_
          refine st_pr F23018 (PR.op (ex_pick_t (ev_b rfl hb23012) rfl) <| PR.op (ex_move rfl) <| PR.nil) fun q23019 F23020 => ?_
          refine bool_split (x22850.2.2 == x22880.2.2) (fun hb23021 => ?_) (fun hb23021 => ?_)
          · replace H := ite_t hb23021 H
            refine st_gop F23020 rfl rfl (look_b rfl hb23021) (ex_ldagg Fx.agg46 rfl (s22999.blk_cells (.tail _ <| .tail _ <| .tail _ <| .tail _ <| .tail _ <| .head _) (o := 0) (ds := [.string ⟨⟨x47.Module.Name⟩⟩, v58, v60, v62, v64]) (fun j u hu => by rw [Nat.zero_add]; exact hu)) rfl) rfl rfl fun q23022 F23023 => ?_
            refine st_gop F23023 rfl rfl (look_b rfl hb23021) (ex_ldagg Fx.agg46 rfl (s22999.blk_cells (.tail _ <| .tail _ <| .tail _ <| .tail _ <| .tail _ <| .tail _ <| .tail _ <| .tail _ <| .tail _ <| .tail _ <| .head _) (o := 0) (ds := [.string ⟨⟨a0.Module.Name⟩⟩, v0_1, v0_2, v0_3, v0_4]) (fun j u hu => by rw [Nat.zero_add]; exact hu)) rfl) rfl rfl fun q23024 F23025 => ?_
            obtain ⟨x23026, hx23027, H⟩ := bind_ok H
            refine st_ungd F23025 rfl (look_b rfl hb23021) ?_
            refine st_call (args := [.tmp 83, .tmp 84]) F23025 Fx.fn19 rfl (provisolaw18_samePart_c (a0 := (⟨(⟨x47.Module.Name, x47.Module.Classes, x47.Module.Funcs, x47.Module.Certs⟩ : S_api_Module), x47.Imports⟩ : S_api_Part)) (a1 := (⟨(⟨a0.Module.Name, a0.Module.Classes, a0.Module.Funcs, a0.Module.Certs⟩ : S_api_Module), a0.Imports⟩ : S_api_Part))  (s22999.rd0 (.tail _ <| .tail _ <| .tail _ <| .tail _ <| .tail _ <| .tail _ <| .head _)) (s22999.rd0 (.tail _ <| .tail _ <| .tail _ <| .tail _ <| .tail _ <| .tail _ <| .tail _ <| .head _)) (s22999.rd0 (.tail _ <| .tail _ <| .tail _ <| .tail _ <| .tail _ <| .tail _ <| .tail _ <| .tail _ <| .head _)) (s22999.rd0 (.tail _ <| .tail _ <| .tail _ <| .tail _ <| .tail _ <| .tail _ <| .tail _ <| .tail _ <| .tail _ <| .head _)) (hr0_1.pass0 s22999) (hr0_2.pass0 s22999) (hr0_3.pass0 s22999) (hr0_4.pass0 s22999) hx23027) rfl fun v23028 w23029 q23030 hS23032 F23031 => ?_
            obtain ⟨rfl, hq23034⟩ := hS23032
            have s23033 := s22999.add hq23034
            refine st_pr F23031 (PR.op (ex_pick_t (ev_b rfl hb23021) rfl) <| PR.op (ex_asg rfl) <| PR.nil) fun q23035 F23036 => ?_
            refine st_end ?_
            refine then_n ?_
            obtain rfl := some_ok H
            refine wp_ret ?_
            refine ret_gen (rs := [.tmp 2]) (vs := [.bool x23026]) F23036 (by rfl) ⟨_, _, rfl, RV.tmp rfl, rfl⟩ ⟨_, rfl, ⟨rfl, s23033.drop.drop.drop.drop.drop.drop.drop.drop.drop.drop.drop.drop⟩⟩
          · replace H := ite_f hb23021 H
            refine st_gskip F23020 rfl rfl (look_b rfl hb23021) Bool.noConfusion rfl rfl fun q23037 F23038 => ?_
            refine st_gskip F23038 rfl rfl (look_b rfl hb23021) Bool.noConfusion rfl rfl fun q23039 F23040 => ?_
            refine st_gskip F23040 rfl rfl (look_b rfl hb23021) Bool.noConfusion rfl rfl fun q23041 F23042 => ?_
            refine st_pr F23042 (PR.op (ex_pick_f (ev_b rfl hb23021) rfl) <| PR.op (ex_asg rfl) <| PR.nil) fun q23043 F23044 => ?_
            refine st_end ?_
            refine then_n ?_
            obtain rfl := some_ok H
            refine wp_ret ?_
            refine ret_gen (rs := [.tmp 2]) (vs := [.bool false]) F23044 (by rfl) ⟨_, _, rfl, RV.tmp rfl, rfl⟩ ⟨_, rfl, ⟨rfl, s22999.drop.drop.drop.drop.drop.drop.drop.drop.drop.drop.drop.drop⟩⟩
        · replace H := ite_f hb23012 H
          refine st_gskip F23011 rfl rfl (look_b rfl hb23012) Bool.noConfusion rfl rfl fun q23045 F23046 => ?_
          refine st_gskip F23046 rfl rfl (look_b rfl hb23012) Bool.noConfusion rfl rfl fun q23047 F23048 => ?_
          refine st_gskip F23048 rfl rfl (look_b rfl hb23012) Bool.noConfusion rfl rfl fun q23049 F23050 => ?_
          refine st_pr F23050 (PR.op (ex_pick_f (ev_b rfl hb23012) rfl) <| PR.op (ex_move rfl) <| PR.nil) fun q23051 F23052 => ?_
          refine st_gskip F23052 rfl rfl rfl Bool.noConfusion rfl rfl fun q23053 F23054 => ?_
          refine st_gskip F23054 rfl rfl rfl Bool.noConfusion rfl rfl fun q23055 F23056 => ?_
          refine st_gskip F23056 rfl rfl rfl Bool.noConfusion rfl rfl fun q23057 F23058 => ?_
          refine st_pr F23058 (PR.op (ex_pick_f rfl rfl) <| PR.op (ex_asg rfl) <| PR.nil) fun q23059 F23060 => ?_
          refine st_end ?_
          refine then_n ?_
          obtain rfl := some_ok H
          refine wp_ret ?_
          refine ret_gen (rs := [.tmp 2]) (vs := [.bool false]) F23060 (by rfl) ⟨_, _, rfl, RV.tmp rfl, rfl⟩ ⟨_, rfl, ⟨rfl, s22999.drop.drop.drop.drop.drop.drop.drop.drop.drop.drop.drop.drop⟩⟩
      · replace H := ite_f hb23003 H
        refine st_gskip F23002 rfl rfl (look_b rfl hb23003) Bool.noConfusion rfl rfl fun q23061 F23062 => ?_
        refine st_gskip F23062 rfl rfl (look_b rfl hb23003) Bool.noConfusion rfl rfl fun q23063 F23064 => ?_
        refine st_gskip F23064 rfl rfl (look_b rfl hb23003) Bool.noConfusion rfl rfl fun q23065 F23066 => ?_
        refine st_pr F23066 (PR.op (ex_pick_f (ev_b rfl hb23003) rfl) <| PR.op (ex_move rfl) <| PR.nil) fun q23067 F23068 => ?_
        refine st_gskip F23068 rfl rfl rfl Bool.noConfusion rfl rfl fun q23069 F23070 => ?_
        refine st_gskip F23070 rfl rfl rfl Bool.noConfusion rfl rfl fun q23071 F23072 => ?_
        refine st_gskip F23072 rfl rfl rfl Bool.noConfusion rfl rfl fun q23073 F23074 => ?_
        refine st_pr F23074 (PR.op (ex_pick_f rfl rfl) <| PR.op (ex_move rfl) <| PR.nil) fun q23075 F23076 => ?_
        refine st_gskip F23076 rfl rfl rfl Bool.noConfusion rfl rfl fun q23077 F23078 => ?_
        refine st_gskip F23078 rfl rfl rfl Bool.noConfusion rfl rfl fun q23079 F23080 => ?_
        refine st_gskip F23080 rfl rfl rfl Bool.noConfusion rfl rfl fun q23081 F23082 => ?_
        refine st_pr F23082 (PR.op (ex_pick_f rfl rfl) <| PR.op (ex_asg rfl) <| PR.nil) fun q23083 F23084 => ?_
        refine st_end ?_
        refine then_n ?_
        obtain rfl := some_ok H
        refine wp_ret ?_
        refine ret_gen (rs := [.tmp 2]) (vs := [.bool false]) F23084 (by rfl) ⟨_, _, rfl, RV.tmp rfl, rfl⟩ ⟨_, rfl, ⟨rfl, s22999.drop.drop.drop.drop.drop.drop.drop.drop.drop.drop.drop.drop⟩⟩
end Go.Proofs.Ytmeodoidfpcjlaa
