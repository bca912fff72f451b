/- slices.Clone of whole numbers, as the engine asks it. No conditions. -/
import Derived.Test.YtkfeofjgdijbeaaSeat
import Derived.Test.YtkfeofjgdijbeaaVb
set_option linter.unusedVariables false
set_option linter.unusedSimpArgs false
namespace Go.Eng
open Go.Proofs
set_option maxRecDepth 100000
set_option linter.unusedSimpArgs false
attribute [local go_sem] rV_s rC_s rH_s rT_s cOf_s cell_s app1_s app2_s consO_s ev_t ev_f ev_g ev_b ev_i ev_s ev_n ev_a evs_n evs_c evCs_n evCs_c part_s evP_n evP_c pk_t pk_f op_move op_assign op_pick alo_s op_alloc op_box op_build bsl_s op_buildSlice lod_s op_load sto_s op_store nlc_s op_nilCheck op_bin op_un cvt_s op_convert mkf_s op_makeFunc mks_s op_makeSlice lft_s evO_n evO_s slc_s op_slice op_fieldAddr op_field op_indexAddr op_index xtr_s op_extract calP_s op_callf op_callt cal1_s op_len app_s op_append op_max op_min mC_seq mC_skip mC_ret mC_exit mC_label mC_block mC_region mC_regionW mW_f mC_cond mB_t mB_f mN_code mN_ret mN_exit mN_blk mN_blk_ret mN_blk_exit mN_nil mO_nil mO_op mO_if mX_s mG_t mG_f want_tt want_tf want_ft want_ff want_u getO_s dstOf_z dstOf_n put_s put_n lv_s fin_r fin_n res_n res_c res_t rsc_s res_cell ldG_f agO_s subO_s ldG_t loadA_r seO_s stG_t storeA_r faG_s fdA_r fvG_t fvG_f fdV_r
attribute [local go_sem] agL_s bd_s buildA_r fillP_n fil1_s fillP_c fillS_n fillS_c setAll_n setAll_c consI_s toInts_n toInts_c intO_s mkO_i mkO_v bs_r bs1_s bs2_s bs3_s bs4_s reps_z reps_n zoI_s zoV_s zo_i zo_v zeros_r mk_r mk1_s mk2_s mk3_s cells_i cells_v sr_s sr2_s src_sl src_nil src_str or1_s or2_s or3_s old_sl old_nil new_f nw_s new_t ap_r ap1_s ap2_s ap3_s ap4_s zerosT_n zerosT_s zt_i zt_sl zt_st cat_i cat_v sub_all sub_i sub_v set_i set_v sets_n sets_c se_s bound_n bound_i sl1_s sl2_s slice_r ix1_s ix2_s index_r lnG_s len_sl len_nil leave_w leave_D below_c below_a pkl_s leave_p pvs_s pv2_s packVs_n packVs_c pcs_s pc2_s packCs_n packCs_c pv1_s pva_s packV_c packV_a packC_nil psl_s packC_sl packC_b packC_i packC_s tup_1 tup_2 tup_0 b_add b_sub b_mul b_quo b_rem b_shl b_shr b_eql b_neq b_lss b_leq b_gtr b_geq eqB_s b_eqB b_neB u_neg u_not b_and255 b_xor64 b_nn b_nn' b_snn b_snn' eqS_s src_sn take_new cells_vals
attribute [local go_sem] get keepOnly entry AV.cells AV.one CV.isBelow allB cellsB ld_new ld_new0 at_new at_new0 set_new set_new0 ld_zero ld_succ ldO_ints ldO_vals w64 gt_some gt_get List.take_of_length_le idx0 iltT iltF ileT ileF ieqT ieqF nltT nltF nleT nleF neqT neqF tdiv_pos tmod_pos
theorem clone_ints (call : CallF) (h : AH) : runBody Try.prog cf call h.length 113 [.c .nil] h = some (.c (.sl h.length 0 0 1), h ++ [.ints .i64 []]) ∧
    ∀ (i off len : Nat) (l : List Int), rdI .i64 h (.sn i off len 1) = some l → l.length ≤ 1000000000000 → runBody Try.prog cf call h.length 113 [.c (.sn i off len 1)] h = some (.c (.sl h.length 0 l.length 1), h ++ [.ints .i64 l]) := by
  constructor
  · rw [body_m Try.func113 rfl]
    simp only [Try.f113]
    simp (disch := omega) [go_sem, isTT, tab113, nil113]
  · intro i off len l hr hle
    obtain ⟨m, h1, h2, h3, h4⟩ := rdI_sn hr
    rw [body_m Try.func113 rfl]
    simp only [Try.f113]
    have h5 : (h ++ [AO.ints .i64 []])[i]? = some (.ints .i64 m) := at_old _ h1
    simp (disch := omega) [go_sem, isTT, tab113, nil113, h5, ← h3, h4]
theorem clones : CloneOK Try.prog cf := fun f k hf call h => by
  have hf : (match (generalizing := false) f with | 113 => some IntKind.i64 | _ => none) = some k := hf
  split at hf
  · cases hf; exact clone_ints call h
  · cases hf
end Go.Eng
