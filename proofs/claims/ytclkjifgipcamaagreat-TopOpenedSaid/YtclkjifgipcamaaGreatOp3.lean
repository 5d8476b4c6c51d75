/- Helper lemmas of this claim, part 3. -/
import Derived.Test.YtclkjifgipcamaaGreatChecked
import Derived.ChangeSame
import Derived.JoinedOf
import Derived.ProofKit
import Derived.Handed
import Derived.Test.YtclkjifgipcamaaGreatOp2
section
namespace Go.V
theorem vsAll : type_of% (And.intro (And.intro (And.intro (And.intro (And.intro (And.intro (And.intro (And.intro (@VS_nil) (@VS_blk)) (And.intro (@VS_skip) (And.intro (@VS_label) (@VS_scope)))) (And.intro (And.intro (@VS_ret) (And.intro (@VS_exit) (@VX_nil))) (And.intro (@VX_normal) (And.intro (@VX_ret) (@VX_pan))))) (And.intro (And.intro (And.intro (@VX_exit_blk) (@VX_exit_code)) (And.intro (@VX_exit_ops) (And.intro (@VS_seq) (@VS_block)))) (And.intro (And.intro (@VS_region) (And.intro (@VS_cond) (@CondV_true))) (And.intro (@CondV_false) (And.intro (@VS_ops_nil) (@VS_ops)))))) (And.intro (And.intro (And.intro (And.intro (@VS_opsG) (@GdV_quiet)) (And.intro (@GdV_call) (And.intro (@GdV_quiet2) (@GdV_call2)))) (And.intro (And.intro (@cE_eq) (And.intro (@cP_eq) (@cA_eq))) (And.intro (@cU_eq) (And.intro (@cQ_eq) (@cG_eq))))) (And.intro (And.intro (And.intro (@k1_eq) (And.intro (@k2_eq) (@RQ_none))) (And.intro (@RQ_nil) (And.intro (@RQ_cons) (@VX_exit_ef)))) (And.intro (And.intro (@VX_exit_quiet) (And.intro (@cF_eq) (@cW_eq))) (And.intro (@VS_ef) (And.intro (@expand_nil) (@expand_cons))))))) (And.intro (And.intro (And.intro (And.intro (And.intro (@pickO_nil) (@pickO_cons)) (And.intro (@opAt_zero) (And.intro (@opAt_succ) (@vcRs_nil)))) (And.intro (And.intro (@vcRs_cons) (And.intro (@cR_eq) (@cRG_eq))) (And.intro (@dstIs_some) (And.intro (@dstIs_none) (@vcR1_quiet))))) (And.intro (And.intro (And.intro (@vcR1_call) (And.intro (@vcR1_G) (@RGd_quiet))) (And.intro (@RGd_call) (And.intro (@RGd_quiet2) (@RGd_call2)))) (And.intro (And.intro (@wipe_eq) (And.intro (@wipeB_nil) (@wipeB_none))) (And.intro (@wipeB_some) (And.intro (@pu_move) (@pu_assign)))))) (And.intro (And.intro (And.intro (And.intro (@pu_pick) (@pu_box)) (And.intro (@pu_build) (And.intro (@pu_buildSlice) (@pu_load)))) (And.intro (And.intro (@pu_nilCheck) (And.intro (@pu_binOp) (@pu_unOp))) (And.intro (@pu_convert) (And.intro (@pu_makeInterface) (@pu_makeFunc))))) (And.intro (And.intro (And.intro (@pu_fieldAddr) (And.intro (@pu_field) (@pu_indexAddr))) (And.intro (@pu_index) (And.intro (@pu_extract) (@pu_len)))) (And.intro (And.intro (@pu_max) (And.intro (@pu_min) (@ef_quiet))) (And.intro (@ef_alloc) (And.intro (@ef_box) (@ef_boxM)))))))) (And.intro (And.intro (And.intro (And.intro (And.intro (And.intro (@ef_buildSlice) (@ef_buildMut)) (And.intro (@ef_makeSlice) (And.intro (@ef_sliceP) (@ef_sliceM)))) (And.intro (And.intro (@ef_store) (And.intro (@ef_nil) (@ef_assign))) (And.intro (@ef_panic) (And.intro (@cPan_eq) (@cD_eq))))) (And.intro (And.intro (And.intro (@ef_defer) (@ef_deferT)) (And.intro (@ef_append) (And.intro (@ef_makeMap) (@ef_mapUpdate)))) (And.intro (And.intro (@ef_range) (And.intro (@ef_next) (@ef_entry))) (And.intro (@ef_copy) (And.intro (@k3_eq) (@pu_ta)))))) (And.intro (And.intro (And.intro (And.intro (@taRes_true) (@taRes_false)) (And.intro (@pu_lookup) (And.intro (@pu_slice) (@gotV_some)))) (And.intro (And.intro (@gotV_none) (And.intro (@lookRes_true) (@lookRes_false))) (And.intro (@keyV_lit) (And.intro (@keyV_agg) (@litV_nil))))) (And.intro (And.intro (And.intro (@litV_cons) (And.intro (@valA_agg) (@valA_int))) (And.intro (@valA_bool) (And.intro (@Option.isSome_some.{0}) (@Option.isSome_none.{0})))) (And.intro (And.intro (@ef_call) (And.intro (@ef_invoke) (@cv_call))) (And.intro (@cv_invoke) (And.intro (@qE_eq) (@qG_eq))))))) (And.intro (And.intro (And.intro (And.intro (And.intro (@VS_quiet_nil) (@VS_quiet)) (And.intro (@VS_quiet_call) (And.intro (@VS_quietG) (@QGdV_quiet)))) (And.intro (And.intro (@QGdV_call) (And.intro (@QGdV_quiet2) (@QGdV_call2))) (And.intro (@LoopQ_exit) (And.intro (@LoopQ_ret) (@LoopQ_pan))))) (And.intro (And.intro (And.intro (@LoopD_exit) (And.intro (@LoopD_ret) (@LoopD_pan))) (And.intro (@mset_some) (And.intro (@mset_none) (@kAgg_eq)))) (And.intro (And.intro (@buildA_eq) (And.intro (@kBox_eq) (@kRow_eq))) (And.intro (@storeA_eq) (And.intro (@litI_nil) (@litI_cons)))))) (And.intro (And.intro (And.intro (And.intro (@fillR_nil) (@fillR_cons)) (And.intro (@want_true) (And.intro (@want_false) (@Slots_nil)))) (And.intro (And.intro (@Slots_cons) (And.intro (@AVLe_refl) (@AVLe_any))) (And.intro (@AVLe_nil) (And.intro (@updF_one) (@HSub_refl))))) (And.intro (And.intro (And.intro (@isC_move) (And.intro (@qu_move) (@isC_assign))) (And.intro (@isC_pick) (And.intro (@qu_pick) (@isC_alloc)))) (And.intro (And.intro (@isC_box) (And.intro (@isC_build) (@qu_build))) (And.intro (@isC_buildSlice) (And.intro (@isC_insert) (@qu_insert))))))))) (And.intro (And.intro (And.intro (And.intro (And.intro (And.intro (And.intro (@isC_load) (@qu_load)) (And.intro (@isC_store) (And.intro (@isC_ready) (@qu_ready)))) (And.intro (And.intro (@isC_waits) (And.intro (@qu_waits) (@isC_nilCheck))) (And.intro (@qu_nilCheck) (And.intro (@isC_binOp) (@qu_binOp))))) (And.intro (And.intro (And.intro (@isC_unOp) (@qu_unOp)) (And.intro (@isC_convert) (And.intro (@qu_convert) (@isC_makeInterface)))) (And.intro (And.intro (@qu_makeInterface) (And.intro (@isC_makeFunc) (@qu_makeFunc))) (And.intro (@isC_makeMap) (And.intro (@isC_slice) (@isC_fieldAddr)))))) (And.intro (And.intro (And.intro (And.intro (@qu_fieldAddr) (@isC_field)) (And.intro (@qu_field) (And.intro (@isC_indexAddr) (@qu_indexAddr)))) (And.intro (And.intro (@isC_index) (And.intro (@qu_index) (@isC_lookup))) (And.intro (@qu_lookup) (And.intro (@isC_mapUpdate) (@isC_typeAssert))))) (And.intro (And.intro (And.intro (@qu_typeAssert) (And.intro (@isC_extract) (@qu_extract))) (And.intro (@isC_defer) (And.intro (@isC_panic) (@isC_range)))) (And.intro (And.intro (@isC_next) (And.intro (@isC_entry) (@isC_makeSlice))) (And.intro (@isC_mapEntry) (And.intro (@qu_mapEntry) (@isC_entryStore))))))) (And.intro (And.intro (And.intro (And.intro (And.intro (@qu_entryStore) (@qu_blen)) (And.intro (@qu_bmax) (And.intro (@qu_bmin) (@isC_builtin)))) (And.intro (And.intro (@isC_value) (And.intro (@isC_invoke) (@st_lit))) (And.intro (@st_agg) (And.intro (@st_arr) (@st_tuple))))) (And.intro (And.intro (And.intro (@st_zp) (And.intro (@st_tp) (@ok_zp))) (And.intro (@ok_tp) (And.intro (@st_rptr) (@st_rsl)))) (And.intro (And.intro (@st_ref) (And.intro (@st_sl) (@st_vw))) (And.intro (@st_map) (And.intro (@st_func) (@st_iface)))))) (And.intro (And.intro (And.intro (And.intro (@st_under) (@st_any)) (And.intro (@ok_lit) (And.intro (@ok_agg) (@ok_arr)))) (And.intro (And.intro (@ok_tuple) (And.intro (@ok_rptr) (@ok_rsl))) (And.intro (@ok_ref) (And.intro (@ok_sl) (@ok_vw))))) (And.intro (And.intro (And.intro (@ok_map) (And.intro (@ok_func) (@ok_iface))) (And.intro (@ok_under) (And.intro (@ok_any) (@put_some)))) (And.intro (And.intro (@put_none) (And.intro (@Fr.of_nil) (@Fr.of_cons))) (And.intro (@Hp.set_at) (And.intro (@FnPost_pan) (@FnPost_exit)))))))) (And.intro (And.intro (And.intro (And.intro (And.intro (And.intro (@FnPost0_normal) (@FnPost0_ret)) (And.intro (@FnPost0_pan) (And.intro (@FnPost0_exit) (@FnPostM_normal)))) (And.intro (And.intro (@FnPostM_ret) (And.intro (@FnPostM_pan) (@FnPostM_exit))) (And.intro (@FnPostAM_normal) (And.intro (@FnPostAM_ret) (@FnPostAM_pan))))) (And.intro (And.intro (And.intro (@FnPostAM_exit) (@popM_nil)) (And.intro (@popM_call) (And.intro (@popM_mark) (@kRet_eq)))) (And.intro (And.intro (@kPan_eq) (And.intro (@kRetA_eq) (@kPanA_eq))) (And.intro (@AsgQ_normal) (And.intro (@RndQ_normal) (@RndQ_ret)))))) (And.intro (And.intro (And.intro (And.intro (@RndQ_exit) (@RndS_normal)) (And.intro (@RndS_ret) (And.intro (@RndS_exit) (@AsgS_normal)))) (And.intro (And.intro (@CutQ_normal) (And.intro (@putAll_nil) (@putAll_cons))) (And.intro (@List.getD_cons_zero.{0}) (And.intro (@List.getD_cons_succ.{0}) (@List.getD_nil.{0}))))) (And.intro (And.intro (And.intro (@List.take_succ_cons.{0}) (And.intro (@List.take_zero.{0}) (@List.take_nil.{0}))) (And.intro (@List.drop_succ_cons.{0}) (And.intro (@List.drop_zero.{0}) (@List.drop_nil.{0})))) (And.intro (And.intro (@List.length_cons.{0}) (And.intro (@List.length_nil.{0}) (@List.map_cons.{0,0}))) (And.intro (@List.map_nil.{0,0}) (And.intro (@List.nil_append.{0}) (@List.cons_append.{0}))))))) (And.intro (And.intro (And.intro (And.intro (And.intro (@List.append_nil.{0}) (@List.getElem?_toArray.{0})) (And.intro (@List.toList_toArray.{0}) (And.intro (@List.getElem?_cons_zero.{0}) (@List.getElem?_cons_succ.{0})))) (And.intro (And.intro (@List.getElem?_nil.{0}) (And.intro (@List.contains_cons.{0}) (@List.contains_nil.{0}))) (And.intro (@Int.toNat_natCast) (And.intro (@true_and) (@and_true))))) (And.intro (And.intro (And.intro (@and_self) (And.intro (@imp_self) (@false_and))) (And.intro (@and_false) (And.intro (@not_false_eq_true) (@not_true_eq_false)))) (And.intro (And.intro (@Bool.false_eq_true) (And.intro (@Bool.true_eq_false) (@Bool.cond_false_right))) (And.intro (@Bool.cond_true_left) (And.intro (@Bool.cond_true_right) (@Bool.cond_false_left)))))) (And.intro (And.intro (And.intro (And.intro (@Bool.and_true) (@Bool.and_false)) (And.intro (@Bool.true_and) (And.intro (@Bool.false_and) (@Bool.or_true)))) (And.intro (And.intro (@Bool.or_false) (And.intro (@Bool.true_or) (@Bool.false_or))) (And.intro (@Bool.not_eq_true') (And.intro (@Bool.not_eq_false') (@Bool.not_true))))) (And.intro (And.intro (And.intro (@Bool.not_false) (And.intro (@Bool.not_not) (@true_or))) (And.intro (@or_true) (And.intro (@or_false) (@false_or)))) (And.intro (And.intro (@decide_true) (And.intro (@decide_false) (@Nat.zero_add))) (And.intro (@Nat.add_zero) (And.intro (@Nat.le_refl) (@Nat.lt_irrefl)))))))))) := And.intro (And.intro (And.intro (And.intro (And.intro (And.intro (And.intro (And.intro (@VS_nil) (@VS_blk)) (And.intro (@VS_skip) (And.intro (@VS_label) (@VS_scope)))) (And.intro (And.intro (@VS_ret) (And.intro (@VS_exit) (@VX_nil))) (And.intro (@VX_normal) (And.intro (@VX_ret) (@VX_pan))))) (And.intro (And.intro (And.intro (@VX_exit_blk) (@VX_exit_code)) (And.intro (@VX_exit_ops) (And.intro (@VS_seq) (@VS_block)))) (And.intro (And.intro (@VS_region) (And.intro (@VS_cond) (@CondV_true))) (And.intro (@CondV_false) (And.intro (@VS_ops_nil) (@VS_ops)))))) (And.intro (And.intro (And.intro (And.intro (@VS_opsG) (@GdV_quiet)) (And.intro (@GdV_call) (And.intro (@GdV_quiet2) (@GdV_call2)))) (And.intro (And.intro (@cE_eq) (And.intro (@cP_eq) (@cA_eq))) (And.intro (@cU_eq) (And.intro (@cQ_eq) (@cG_eq))))) (And.intro (And.intro (And.intro (@k1_eq) (And.intro (@k2_eq) (@RQ_none))) (And.intro (@RQ_nil) (And.intro (@RQ_cons) (@VX_exit_ef)))) (And.intro (And.intro (@VX_exit_quiet) (And.intro (@cF_eq) (@cW_eq))) (And.intro (@VS_ef) (And.intro (@expand_nil) (@expand_cons))))))) (And.intro (And.intro (And.intro (And.intro (And.intro (@pickO_nil) (@pickO_cons)) (And.intro (@opAt_zero) (And.intro (@opAt_succ) (@vcRs_nil)))) (And.intro (And.intro (@vcRs_cons) (And.intro (@cR_eq) (@cRG_eq))) (And.intro (@dstIs_some) (And.intro (@dstIs_none) (@vcR1_quiet))))) (And.intro (And.intro (And.intro (@vcR1_call) (And.intro (@vcR1_G) (@RGd_quiet))) (And.intro (@RGd_call) (And.intro (@RGd_quiet2) (@RGd_call2)))) (And.intro (And.intro (@wipe_eq) (And.intro (@wipeB_nil) (@wipeB_none))) (And.intro (@wipeB_some) (And.intro (@pu_move) (@pu_assign)))))) (And.intro (And.intro (And.intro (And.intro (@pu_pick) (@pu_box)) (And.intro (@pu_build) (And.intro (@pu_buildSlice) (@pu_load)))) (And.intro (And.intro (@pu_nilCheck) (And.intro (@pu_binOp) (@pu_unOp))) (And.intro (@pu_convert) (And.intro (@pu_makeInterface) (@pu_makeFunc))))) (And.intro (And.intro (And.intro (@pu_fieldAddr) (And.intro (@pu_field) (@pu_indexAddr))) (And.intro (@pu_index) (And.intro (@pu_extract) (@pu_len)))) (And.intro (And.intro (@pu_max) (And.intro (@pu_min) (@ef_quiet))) (And.intro (@ef_alloc) (And.intro (@ef_box) (@ef_boxM)))))))) (And.intro (And.intro (And.intro (And.intro (And.intro (And.intro (@ef_buildSlice) (@ef_buildMut)) (And.intro (@ef_makeSlice) (And.intro (@ef_sliceP) (@ef_sliceM)))) (And.intro (And.intro (@ef_store) (And.intro (@ef_nil) (@ef_assign))) (And.intro (@ef_panic) (And.intro (@cPan_eq) (@cD_eq))))) (And.intro (And.intro (And.intro (@ef_defer) (@ef_deferT)) (And.intro (@ef_append) (And.intro (@ef_makeMap) (@ef_mapUpdate)))) (And.intro (And.intro (@ef_range) (And.intro (@ef_next) (@ef_entry))) (And.intro (@ef_copy) (And.intro (@k3_eq) (@pu_ta)))))) (And.intro (And.intro (And.intro (And.intro (@taRes_true) (@taRes_false)) (And.intro (@pu_lookup) (And.intro (@pu_slice) (@gotV_some)))) (And.intro (And.intro (@gotV_none) (And.intro (@lookRes_true) (@lookRes_false))) (And.intro (@keyV_lit) (And.intro (@keyV_agg) (@litV_nil))))) (And.intro (And.intro (And.intro (@litV_cons) (And.intro (@valA_agg) (@valA_int))) (And.intro (@valA_bool) (And.intro (@Option.isSome_some.{0}) (@Option.isSome_none.{0})))) (And.intro (And.intro (@ef_call) (And.intro (@ef_invoke) (@cv_call))) (And.intro (@cv_invoke) (And.intro (@qE_eq) (@qG_eq))))))) (And.intro (And.intro (And.intro (And.intro (And.intro (@VS_quiet_nil) (@VS_quiet)) (And.intro (@VS_quiet_call) (And.intro (@VS_quietG) (@QGdV_quiet)))) (And.intro (And.intro (@QGdV_call) (And.intro (@QGdV_quiet2) (@QGdV_call2))) (And.intro (@LoopQ_exit) (And.intro (@LoopQ_ret) (@LoopQ_pan))))) (And.intro (And.intro (And.intro (@LoopD_exit) (And.intro (@LoopD_ret) (@LoopD_pan))) (And.intro (@mset_some) (And.intro (@mset_none) (@kAgg_eq)))) (And.intro (And.intro (@buildA_eq) (And.intro (@kBox_eq) (@kRow_eq))) (And.intro (@storeA_eq) (And.intro (@litI_nil) (@litI_cons)))))) (And.intro (And.intro (And.intro (And.intro (@fillR_nil) (@fillR_cons)) (And.intro (@want_true) (And.intro (@want_false) (@Slots_nil)))) (And.intro (And.intro (@Slots_cons) (And.intro (@AVLe_refl) (@AVLe_any))) (And.intro (@AVLe_nil) (And.intro (@updF_one) (@HSub_refl))))) (And.intro (And.intro (And.intro (@isC_move) (And.intro (@qu_move) (@isC_assign))) (And.intro (@isC_pick) (And.intro (@qu_pick) (@isC_alloc)))) (And.intro (And.intro (@isC_box) (And.intro (@isC_build) (@qu_build))) (And.intro (@isC_buildSlice) (And.intro (@isC_insert) (@qu_insert))))))))) (And.intro (And.intro (And.intro (And.intro (And.intro (And.intro (And.intro (@isC_load) (@qu_load)) (And.intro (@isC_store) (And.intro (@isC_ready) (@qu_ready)))) (And.intro (And.intro (@isC_waits) (And.intro (@qu_waits) (@isC_nilCheck))) (And.intro (@qu_nilCheck) (And.intro (@isC_binOp) (@qu_binOp))))) (And.intro (And.intro (And.intro (@isC_unOp) (@qu_unOp)) (And.intro (@isC_convert) (And.intro (@qu_convert) (@isC_makeInterface)))) (And.intro (And.intro (@qu_makeInterface) (And.intro (@isC_makeFunc) (@qu_makeFunc))) (And.intro (@isC_makeMap) (And.intro (@isC_slice) (@isC_fieldAddr)))))) (And.intro (And.intro (And.intro (And.intro (@qu_fieldAddr) (@isC_field)) (And.intro (@qu_field) (And.intro (@isC_indexAddr) (@qu_indexAddr)))) (And.intro (And.intro (@isC_index) (And.intro (@qu_index) (@isC_lookup))) (And.intro (@qu_lookup) (And.intro (@isC_mapUpdate) (@isC_typeAssert))))) (And.intro (And.intro (And.intro (@qu_typeAssert) (And.intro (@isC_extract) (@qu_extract))) (And.intro (@isC_defer) (And.intro (@isC_panic) (@isC_range)))) (And.intro (And.intro (@isC_next) (And.intro (@isC_entry) (@isC_makeSlice))) (And.intro (@isC_mapEntry) (And.intro (@qu_mapEntry) (@isC_entryStore))))))) (And.intro (And.intro (And.intro (And.intro (And.intro (@qu_entryStore) (@qu_blen)) (And.intro (@qu_bmax) (And.intro (@qu_bmin) (@isC_builtin)))) (And.intro (And.intro (@isC_value) (And.intro (@isC_invoke) (@st_lit))) (And.intro (@st_agg) (And.intro (@st_arr) (@st_tuple))))) (And.intro (And.intro (And.intro (@st_zp) (And.intro (@st_tp) (@ok_zp))) (And.intro (@ok_tp) (And.intro (@st_rptr) (@st_rsl)))) (And.intro (And.intro (@st_ref) (And.intro (@st_sl) (@st_vw))) (And.intro (@st_map) (And.intro (@st_func) (@st_iface)))))) (And.intro (And.intro (And.intro (And.intro (@st_under) (@st_any)) (And.intro (@ok_lit) (And.intro (@ok_agg) (@ok_arr)))) (And.intro (And.intro (@ok_tuple) (And.intro (@ok_rptr) (@ok_rsl))) (And.intro (@ok_ref) (And.intro (@ok_sl) (@ok_vw))))) (And.intro (And.intro (And.intro (@ok_map) (And.intro (@ok_func) (@ok_iface))) (And.intro (@ok_under) (And.intro (@ok_any) (@put_some)))) (And.intro (And.intro (@put_none) (And.intro (@Fr.of_nil) (@Fr.of_cons))) (And.intro (@Hp.set_at) (And.intro (@FnPost_pan) (@FnPost_exit)))))))) (And.intro (And.intro (And.intro (And.intro (And.intro (And.intro (@FnPost0_normal) (@FnPost0_ret)) (And.intro (@FnPost0_pan) (And.intro (@FnPost0_exit) (@FnPostM_normal)))) (And.intro (And.intro (@FnPostM_ret) (And.intro (@FnPostM_pan) (@FnPostM_exit))) (And.intro (@FnPostAM_normal) (And.intro (@FnPostAM_ret) (@FnPostAM_pan))))) (And.intro (And.intro (And.intro (@FnPostAM_exit) (@popM_nil)) (And.intro (@popM_call) (And.intro (@popM_mark) (@kRet_eq)))) (And.intro (And.intro (@kPan_eq) (And.intro (@kRetA_eq) (@kPanA_eq))) (And.intro (@AsgQ_normal) (And.intro (@RndQ_normal) (@RndQ_ret)))))) (And.intro (And.intro (And.intro (And.intro (@RndQ_exit) (@RndS_normal)) (And.intro (@RndS_ret) (And.intro (@RndS_exit) (@AsgS_normal)))) (And.intro (And.intro (@CutQ_normal) (And.intro (@putAll_nil) (@putAll_cons))) (And.intro (@List.getD_cons_zero.{0}) (And.intro (@List.getD_cons_succ.{0}) (@List.getD_nil.{0}))))) (And.intro (And.intro (And.intro (@List.take_succ_cons.{0}) (And.intro (@List.take_zero.{0}) (@List.take_nil.{0}))) (And.intro (@List.drop_succ_cons.{0}) (And.intro (@List.drop_zero.{0}) (@List.drop_nil.{0})))) (And.intro (And.intro (@List.length_cons.{0}) (And.intro (@List.length_nil.{0}) (@List.map_cons.{0,0}))) (And.intro (@List.map_nil.{0,0}) (And.intro (@List.nil_append.{0}) (@List.cons_append.{0}))))))) (And.intro (And.intro (And.intro (And.intro (And.intro (@List.append_nil.{0}) (@List.getElem?_toArray.{0})) (And.intro (@List.toList_toArray.{0}) (And.intro (@List.getElem?_cons_zero.{0}) (@List.getElem?_cons_succ.{0})))) (And.intro (And.intro (@List.getElem?_nil.{0}) (And.intro (@List.contains_cons.{0}) (@List.contains_nil.{0}))) (And.intro (@Int.toNat_natCast) (And.intro (@true_and) (@and_true))))) (And.intro (And.intro (And.intro (@and_self) (And.intro (@imp_self) (@false_and))) (And.intro (@and_false) (And.intro (@not_false_eq_true) (@not_true_eq_false)))) (And.intro (And.intro (@Bool.false_eq_true) (And.intro (@Bool.true_eq_false) (@Bool.cond_false_right))) (And.intro (@Bool.cond_true_left) (And.intro (@Bool.cond_true_right) (@Bool.cond_false_left)))))) (And.intro (And.intro (And.intro (And.intro (@Bool.and_true) (@Bool.and_false)) (And.intro (@Bool.true_and) (And.intro (@Bool.false_and) (@Bool.or_true)))) (And.intro (And.intro (@Bool.or_false) (And.intro (@Bool.true_or) (@Bool.false_or))) (And.intro (@Bool.not_eq_true') (And.intro (@Bool.not_eq_false') (@Bool.not_true))))) (And.intro (And.intro (And.intro (@Bool.not_false) (And.intro (@Bool.not_not) (@true_or))) (And.intro (@or_true) (And.intro (@or_false) (@false_or)))) (And.intro (And.intro (@decide_true) (And.intro (@decide_false) (@Nat.zero_add))) (And.intro (@Nat.add_zero) (And.intro (@Nat.le_refl) (@Nat.lt_irrefl)))))))))
end Go.V
end
section
namespace Go.Proofs.YtclkjifgipcamaaGreat
open Go.V
theorem wtAll : (((((((((boolT Tryz.prog 4 = true ∧ ifcT Tryz.prog 20 = true) ∧ ifcT Tryz.prog 79 = true ∧ ifcT Tryz.prog 80 = true) ∧ (ifcT Tryz.prog 150 = true ∧ ifcT Tryz.prog 151 = true) ∧ zT Tryz.prog 1 = some false ∧ szT Tryz.prog 1 = some (1, false)) ∧
((arT Tryz.prog 1 = none ∧ Program.concrete Tryz.prog 1 = true) ∧ zT Tryz.prog 2 = some false ∧ szT Tryz.prog 2 = some (1, false)) ∧ (arT Tryz.prog 2 = none ∧ Program.concrete Tryz.prog 2 = true) ∧ (Program.underlying Tryz.prog 2).isSome = true ∧
intT Tryz.prog 2 = some .i64) ∧ (((elT Tryz.prog 2 = none ∧ azT Tryz.prog 2 = some (1, 1, [.int .i64 0])) ∧ zeroT Tryz.prog 2 = some [.int .i64 0] ∧ zT Tryz.prog 3 = some false) ∧ (szT Tryz.prog 3 = some (1, false) ∧ arT Tryz.prog 3 = none) ∧ Program.concrete Tryz.prog 3 = true ∧
(Program.underlying Tryz.prog 3).isSome = true) ∧ ((intT Tryz.prog 3 = some .i64 ∧ elT Tryz.prog 3 = none) ∧ azT Tryz.prog 3 = some (1, 1, [.int .i64 0]) ∧ zeroT Tryz.prog 3 = some [.int .i64 0]) ∧ (zT Tryz.prog 4 = some false ∧ szT Tryz.prog 4 = some (1, false)) ∧
arT Tryz.prog 4 = none ∧ Program.concrete Tryz.prog 4 = true ∧ (Program.underlying Tryz.prog 4).isSome = true) ∧ ((((elT Tryz.prog 4 = none ∧ azT Tryz.prog 4 = some (1, 1, [.bool false])) ∧ zeroT Tryz.prog 4 = some [.bool false] ∧ zT Tryz.prog 5 = some false) ∧
(szT Tryz.prog 5 = some (1, false) ∧ arT Tryz.prog 5 = none) ∧ Program.concrete Tryz.prog 5 = true ∧ (Program.underlying Tryz.prog 5).isSome = true) ∧ ((intT Tryz.prog 5 = some .u8 ∧ elT Tryz.prog 5 = none) ∧ azT Tryz.prog 5 = some (1, 1, [.int .u8 0]) ∧
zeroT Tryz.prog 5 = some [.int .u8 0]) ∧ (zT Tryz.prog 12 = some false ∧ szT Tryz.prog 12 = some (1, false)) ∧ arT Tryz.prog 12 = none ∧ Program.concrete Tryz.prog 12 = true) ∧ ((((Program.underlying Tryz.prog 12).isSome = true ∧ intT Tryz.prog 12 = some .u64) ∧
elT Tryz.prog 12 = none ∧ azT Tryz.prog 12 = some (1, 1, [.int .u64 0])) ∧ (zeroT Tryz.prog 12 = some [.int .u64 0] ∧ zT Tryz.prog 13 = some false) ∧ szT Tryz.prog 13 = some (2, true) ∧ arT Tryz.prog 13 = none) ∧ ((Program.concrete Tryz.prog 13 = true ∧
(Program.underlying Tryz.prog 13).isSome = true) ∧ elT Tryz.prog 13 = none ∧ azT Tryz.prog 13 = some (2, 1, [.string .empty, .int .u64 0])) ∧ (zeroT Tryz.prog 13 = some [.string .empty, .int .u64 0] ∧ bT Tryz.prog 13 = true) ∧ fldT Tryz.prog 13 0 = some (0, 1, false) ∧
fldT Tryz.prog 13 1 = some (1, 1, false) ∧ zT Tryz.prog 20 = some false) ∧ (((((szT Tryz.prog 20 = some (1, false) ∧ arT Tryz.prog 20 = none) ∧ zT Tryz.prog 21 = some false ∧ szT Tryz.prog 21 = some (1, false)) ∧ (arT Tryz.prog 21 = none ∧ Program.concrete Tryz.prog 21 = true) ∧
(Program.underlying Tryz.prog 21).isSome = true ∧ intT Tryz.prog 21 = some .i32) ∧ ((elT Tryz.prog 21 = none ∧ azT Tryz.prog 21 = some (1, 1, [.int .i32 0])) ∧ zeroT Tryz.prog 21 = some [.int .i32 0] ∧ zT Tryz.prog 22 = some false) ∧ (szT Tryz.prog 22 = some (1, false) ∧
arT Tryz.prog 22 = none) ∧ Program.concrete Tryz.prog 22 = true ∧ (Program.underlying Tryz.prog 22).isSome = true) ∧ (((elT Tryz.prog 22 = some (1, false) ∧ elB Tryz.prog 22 = some (1, 8)) ∧ bsT Tryz.prog 22 = some 1 ∧ mkT Tryz.prog 22 = some (1, 8, [.int .i64 0])) ∧
(azT Tryz.prog 22 = some (1, 1, [.slice none 0 0]) ∧ zeroT Tryz.prog 22 = some [.slice none 0 0]) ∧ zT Tryz.prog 23 = some false ∧ szT Tryz.prog 23 = some (1, false)) ∧ ((arT Tryz.prog 23 = none ∧ Program.concrete Tryz.prog 23 = true) ∧ (Program.underlying Tryz.prog 23).isSome = true ∧
elT Tryz.prog 23 = some (2, true)) ∧ (elB Tryz.prog 23 = some (2, 16) ∧ bsT Tryz.prog 23 = some 2) ∧ mkT Tryz.prog 23 = some (2, 16, [.int .i64 0, .int .i64 0]) ∧ azT Tryz.prog 23 = some (1, 1, [.slice none 0 0]) ∧ zeroT Tryz.prog 23 = some [.slice none 0 0]) ∧
((((zT Tryz.prog 24 = some false ∧ szT Tryz.prog 24 = some (1, false)) ∧ arT Tryz.prog 24 = none ∧ Program.concrete Tryz.prog 24 = true) ∧ ((Program.underlying Tryz.prog 24).isSome = true ∧ elT Tryz.prog 24 = some (2, true)) ∧ elB Tryz.prog 24 = some (2, 16) ∧
bsT Tryz.prog 24 = some 2) ∧ ((mkT Tryz.prog 24 = some (2, 16, [.int .i64 0, .int .i64 0]) ∧ azT Tryz.prog 24 = some (1, 1, [.slice none 0 0])) ∧ zeroT Tryz.prog 24 = some [.slice none 0 0] ∧ zT Tryz.prog 25 = some false) ∧ (szT Tryz.prog 25 = some (3, true) ∧
arT Tryz.prog 25 = none) ∧ Program.concrete Tryz.prog 25 = true ∧ (Program.underlying Tryz.prog 25).isSome = true ∧ elT Tryz.prog 25 = none) ∧ (((azT Tryz.prog 25 = some (3, 1, [.slice none 0 0, .slice none 0 0, .slice none 0 0]) ∧ zeroT Tryz.prog 25 = some [.slice none 0 0, .slice none 0 0, .slice none 0 0]) ∧
bT Tryz.prog 25 = true ∧ fldT Tryz.prog 25 0 = some (0, 1, false)) ∧ (fldT Tryz.prog 25 1 = some (1, 1, false) ∧ fldT Tryz.prog 25 2 = some (2, 1, false)) ∧ zT Tryz.prog 26 = some false ∧ szT Tryz.prog 26 = some (3, true)) ∧ ((arT Tryz.prog 26 = none ∧
Program.concrete Tryz.prog 26 = true) ∧ (Program.underlying Tryz.prog 26).isSome = true ∧ elT Tryz.prog 26 = none) ∧ (azT Tryz.prog 26 = some (3, 1, [.slice none 0 0, .slice none 0 0, .slice none 0 0]) ∧ zeroT Tryz.prog 26 = some [.slice none 0 0, .slice none 0 0, .slice none 0 0]) ∧
bT Tryz.prog 26 = true ∧ fldT Tryz.prog 26 0 = some (0, 1, false) ∧ fldT Tryz.prog 26 1 = some (1, 1, false)) ∧ ((((((fldT Tryz.prog 26 2 = some (2, 1, false) ∧ zT Tryz.prog 27 = some false) ∧ szT Tryz.prog 27 = some (1, false) ∧ arT Tryz.prog 27 = none) ∧
(Program.concrete Tryz.prog 27 = true ∧ (Program.underlying Tryz.prog 27).isSome = true) ∧ elT Tryz.prog 27 = some (1, false) ∧ elB Tryz.prog 27 = some (1, 2)) ∧ ((bsT Tryz.prog 27 = some 1 ∧ mkT Tryz.prog 27 = some (1, 2, [.int .u16 0])) ∧ azT Tryz.prog 27 = some (1, 1, [.slice none 0 0]) ∧
zeroT Tryz.prog 27 = some [.slice none 0 0]) ∧ (zT Tryz.prog 28 = some false ∧ szT Tryz.prog 28 = some (1, false)) ∧ arT Tryz.prog 28 = none ∧ Program.concrete Tryz.prog 28 = true) ∧ (((zT Tryz.prog 29 = some false ∧ szT Tryz.prog 29 = some (1, false)) ∧
arT Tryz.prog 29 = none ∧ Program.concrete Tryz.prog 29 = true) ∧ (zT Tryz.prog 30 = some false ∧ szT Tryz.prog 30 = some (1, false)) ∧ arT Tryz.prog 30 = none ∧ Program.concrete Tryz.prog 30 = true) ∧ ((zT Tryz.prog 31 = some false ∧ szT Tryz.prog 31 = some (1, false)) ∧
arT Tryz.prog 31 = none ∧ Program.concrete Tryz.prog 31 = true) ∧ (zT Tryz.prog 32 = some false ∧ szT Tryz.prog 32 = some (2, true)) ∧ arT Tryz.prog 32 = none ∧ Program.concrete Tryz.prog 32 = true ∧ (Program.underlying Tryz.prog 32).isSome = true) ∧
((((elT Tryz.prog 32 = none ∧ azT Tryz.prog 32 = some (2, 1, [.int .i64 0, .int .i64 0])) ∧ zeroT Tryz.prog 32 = some [.int .i64 0, .int .i64 0] ∧ bT Tryz.prog 32 = true) ∧ (fldT Tryz.prog 32 0 = some (0, 1, false) ∧ fldT Tryz.prog 32 1 = some (1, 1, false)) ∧
zT Tryz.prog 33 = some false ∧ szT Tryz.prog 33 = some (2, true)) ∧ ((arT Tryz.prog 33 = none ∧ Program.concrete Tryz.prog 33 = true) ∧ (Program.underlying Tryz.prog 33).isSome = true ∧ elT Tryz.prog 33 = none) ∧ (azT Tryz.prog 33 = some (2, 1, [.int .i64 0, .int .i64 0]) ∧
zeroT Tryz.prog 33 = some [.int .i64 0, .int .i64 0]) ∧ bT Tryz.prog 33 = true ∧ fldT Tryz.prog 33 0 = some (0, 1, false) ∧ fldT Tryz.prog 33 1 = some (1, 1, false)) ∧ (((zT Tryz.prog 34 = some false ∧ szT Tryz.prog 34 = some (1, false)) ∧ arT Tryz.prog 34 = none ∧
Program.concrete Tryz.prog 34 = true) ∧ (zT Tryz.prog 35 = some false ∧ szT Tryz.prog 35 = some (1, false)) ∧ arT Tryz.prog 35 = none ∧ Program.concrete Tryz.prog 35 = true) ∧ (((Program.underlying Tryz.prog 35).isSome = true ∧ intT Tryz.prog 35 = some .i64) ∧
elT Tryz.prog 35 = none ∧ azT Tryz.prog 35 = some (1, 1, [.int .i64 0])) ∧ (zeroT Tryz.prog 35 = some [.int .i64 0] ∧ zT Tryz.prog 37 = some false) ∧ szT Tryz.prog 37 = some (1, false) ∧ arT Tryz.prog 37 = none ∧ Program.concrete Tryz.prog 37 = true) ∧
(((((zT Tryz.prog 39 = some false ∧ szT Tryz.prog 39 = some (1, false)) ∧ arT Tryz.prog 39 = none ∧ Program.concrete Tryz.prog 39 = true) ∧ (zT Tryz.prog 40 = some false ∧ szT Tryz.prog 40 = some (1, false)) ∧ arT Tryz.prog 40 = none ∧ Program.concrete Tryz.prog 40 = true) ∧
(((Program.underlying Tryz.prog 40).isSome = true ∧ elT Tryz.prog 40 = some (2, true)) ∧ elB Tryz.prog 40 = some (2, 16) ∧ bsT Tryz.prog 40 = some 2) ∧ (mkT Tryz.prog 40 = some (2, 16, [.int .i64 0, .bool false]) ∧ azT Tryz.prog 40 = some (1, 1, [.slice none 0 0])) ∧
zeroT Tryz.prog 40 = some [.slice none 0 0] ∧ zT Tryz.prog 41 = some false) ∧ (((szT Tryz.prog 41 = some (4, true) ∧ arT Tryz.prog 41 = none) ∧ Program.concrete Tryz.prog 41 = true ∧ (Program.underlying Tryz.prog 41).isSome = true) ∧ (elT Tryz.prog 41 = none ∧
azT Tryz.prog 41 = some (4, 1, [.slice none 0 0, .slice none 0 0, .slice none 0 0, .slice none 0 0])) ∧ zeroT Tryz.prog 41 = some [.slice none 0 0, .slice none 0 0, .slice none 0 0, .slice none 0 0] ∧ bT Tryz.prog 41 = true) ∧ ((fldT Tryz.prog 41 0 = some (0, 3, true) ∧
fldT Tryz.prog 41 1 = some (3, 1, false)) ∧ zT Tryz.prog 42 = some false ∧ szT Tryz.prog 42 = some (4, true)) ∧ (arT Tryz.prog 42 = none ∧ Program.concrete Tryz.prog 42 = true) ∧ (Program.underlying Tryz.prog 42).isSome = true ∧ elT Tryz.prog 42 = none ∧
azT Tryz.prog 42 = some (4, 1, [.slice none 0 0, .slice none 0 0, .slice none 0 0, .slice none 0 0])) ∧ ((((zeroT Tryz.prog 42 = some [.slice none 0 0, .slice none 0 0, .slice none 0 0, .slice none 0 0] ∧ bT Tryz.prog 42 = true) ∧ fldT Tryz.prog 42 0 = some (0, 3, true) ∧
fldT Tryz.prog 42 1 = some (3, 1, false)) ∧ (zT Tryz.prog 44 = some false ∧ szT Tryz.prog 44 = some (1, false)) ∧ arT Tryz.prog 44 = none ∧ Program.concrete Tryz.prog 44 = true) ∧ ((zT Tryz.prog 45 = some false ∧ szT Tryz.prog 45 = some (2, true)) ∧
arT Tryz.prog 45 = none ∧ Program.concrete Tryz.prog 45 = true) ∧ ((Program.underlying Tryz.prog 45).isSome = true ∧ elT Tryz.prog 45 = none) ∧ azT Tryz.prog 45 = some (2, 1, [.int .i64 0, .bool false]) ∧ zeroT Tryz.prog 45 = some [.int .i64 0, .bool false] ∧
bT Tryz.prog 45 = true) ∧ (((fldT Tryz.prog 45 0 = some (0, 1, false) ∧ fldT Tryz.prog 45 1 = some (1, 1, false)) ∧ zT Tryz.prog 46 = some false ∧ szT Tryz.prog 46 = some (2, true)) ∧ (arT Tryz.prog 46 = none ∧ Program.concrete Tryz.prog 46 = true) ∧
(Program.underlying Tryz.prog 46).isSome = true ∧ elT Tryz.prog 46 = none) ∧ ((azT Tryz.prog 46 = some (2, 1, [.int .i64 0, .bool false]) ∧ zeroT Tryz.prog 46 = some [.int .i64 0, .bool false]) ∧ bT Tryz.prog 46 = true ∧ fldT Tryz.prog 46 0 = some (0, 1, false)) ∧
(fldT Tryz.prog 46 1 = some (1, 1, false) ∧ zT Tryz.prog 47 = some false) ∧ szT Tryz.prog 47 = some (1, false) ∧ arT Tryz.prog 47 = none ∧ Program.concrete Tryz.prog 47 = true) ∧ (((((((zT Tryz.prog 48 = some false ∧ szT Tryz.prog 48 = some (1, false)) ∧
arT Tryz.prog 48 = none ∧ Program.concrete Tryz.prog 48 = true) ∧ (zT Tryz.prog 50 = some false ∧ szT Tryz.prog 50 = some (1, false)) ∧ arT Tryz.prog 50 = none ∧ Program.concrete Tryz.prog 50 = true) ∧ ((zT Tryz.prog 51 = some false ∧ szT Tryz.prog 51 = some (1, false)) ∧
arT Tryz.prog 51 = none ∧ Program.concrete Tryz.prog 51 = true) ∧ (zT Tryz.prog 52 = some false ∧ szT Tryz.prog 52 = some (1, false)) ∧ arT Tryz.prog 52 = none ∧ Program.concrete Tryz.prog 52 = true) ∧ (((zT Tryz.prog 53 = some false ∧ szT Tryz.prog 53 = some (1, false)) ∧
arT Tryz.prog 53 = none ∧ Program.concrete Tryz.prog 53 = true) ∧ (zT Tryz.prog 54 = some false ∧ szT Tryz.prog 54 = some (1, false)) ∧ arT Tryz.prog 54 = none ∧ Program.concrete Tryz.prog 54 = true) ∧ ((zT Tryz.prog 55 = some false ∧ szT Tryz.prog 55 = some (2, true)) ∧
Program.concrete Tryz.prog 55 = true ∧ (Program.underlying Tryz.prog 55).isSome = true) ∧ (elT Tryz.prog 55 = none ∧ arT Tryz.prog 55 = some (2, 1, false)) ∧ azT Tryz.prog 55 = some (1, 2, [.int .i64 0]) ∧ zeroT Tryz.prog 55 = some [.int .i64 0, .int .i64 0] ∧
zT Tryz.prog 56 = some false) ∧ ((((szT Tryz.prog 56 = some (1, false) ∧ arT Tryz.prog 56 = none) ∧ Program.concrete Tryz.prog 56 = true ∧ zT Tryz.prog 57 = some false) ∧ (szT Tryz.prog 57 = some (1, false) ∧ arT Tryz.prog 57 = none) ∧ Program.concrete Tryz.prog 57 = true ∧
zT Tryz.prog 58 = some false) ∧ ((szT Tryz.prog 58 = some (1, false) ∧ arT Tryz.prog 58 = none) ∧ Program.concrete Tryz.prog 58 = true ∧ zT Tryz.prog 59 = some false) ∧ (szT Tryz.prog 59 = some (1, false) ∧ arT Tryz.prog 59 = none) ∧ Program.concrete Tryz.prog 59 = true ∧
(Program.underlying Tryz.prog 59).isSome = true ∧ intT Tryz.prog 59 = some .u16) ∧ (((elT Tryz.prog 59 = none ∧ azT Tryz.prog 59 = some (1, 1, [.int .u16 0])) ∧ zeroT Tryz.prog 59 = some [.int .u16 0] ∧ zT Tryz.prog 60 = some false) ∧ (szT Tryz.prog 60 = some (1, false) ∧
arT Tryz.prog 60 = none) ∧ Program.concrete Tryz.prog 60 = true ∧ zT Tryz.prog 61 = some false) ∧ ((szT Tryz.prog 61 = some (1, false) ∧ azT Tryz.prog 61 = some (1, 1, [.pointer none])) ∧ arT Tryz.prog 61 = none ∧ Program.concrete Tryz.prog 61 = true) ∧
(zT Tryz.prog 62 = some false ∧ szT Tryz.prog 62 = some (1, false)) ∧ azT Tryz.prog 62 = some (1, 1, [.pointer none]) ∧ arT Tryz.prog 62 = none ∧ Program.concrete Tryz.prog 62 = true) ∧ (((((zT Tryz.prog 63 = some false ∧ szT Tryz.prog 63 = some (1, false)) ∧
arT Tryz.prog 63 = none ∧ Program.concrete Tryz.prog 63 = true) ∧ (zT Tryz.prog 64 = some false ∧ szT Tryz.prog 64 = some (1, false)) ∧ arT Tryz.prog 64 = none ∧ Program.concrete Tryz.prog 64 = true) ∧ ((zT Tryz.prog 65 = some false ∧ szT Tryz.prog 65 = some (6, true)) ∧
Program.concrete Tryz.prog 65 = true ∧ (Program.underlying Tryz.prog 65).isSome = true) ∧ (elT Tryz.prog 65 = none ∧ arT Tryz.prog 65 = some (6, 1, false)) ∧ azT Tryz.prog 65 = some (1, 6, [.int .i64 0]) ∧ zeroT Tryz.prog 65 = some [.int .i64 0, .int .i64 0, .int .i64 0, .int .i64 0, .int .i64 0, .int .i64 0]) ∧
(((zT Tryz.prog 66 = some false ∧ szT Tryz.prog 66 = some (6, true)) ∧ Program.concrete Tryz.prog 66 = true ∧ (Program.underlying Tryz.prog 66).isSome = true) ∧ (elT Tryz.prog 66 = none ∧ arT Tryz.prog 66 = some (6, 1, false)) ∧ azT Tryz.prog 66 = some (1, 6, [.int .i64 0]) ∧
zeroT Tryz.prog 66 = some [.int .i64 0, .int .i64 0, .int .i64 0, .int .i64 0, .int .i64 0, .int .i64 0]) ∧ ((zT Tryz.prog 67 = some false ∧ szT Tryz.prog 67 = some (12, true)) ∧ arT Tryz.prog 67 = none ∧ Program.concrete Tryz.prog 67 = true) ∧
((Program.underlying Tryz.prog 67).isSome = true ∧ elT Tryz.prog 67 = none) ∧ azT Tryz.prog 67 = some (12, 1, [.int .i64 0, .int .i64 0, .int .i64 0, .int .i64 0, .int .i64 0, .int .i64 0, .int .i64 0, .int .i64 0, .int .i64 0, .int .i64 0, .int .i64 0, .int .i64 0]) ∧
zeroT Tryz.prog 67 = some [.int .i64 0, .int .i64 0, .int .i64 0, .int .i64 0, .int .i64 0, .int .i64 0, .int .i64 0, .int .i64 0, .int .i64 0, .int .i64 0, .int .i64 0, .int .i64 0] ∧ bT Tryz.prog 67 = true) ∧ ((((fldT Tryz.prog 67 0 = some (0, 6, true) ∧
fldT Tryz.prog 67 1 = some (6, 6, true)) ∧ zT Tryz.prog 68 = some false ∧ szT Tryz.prog 68 = some (12, true)) ∧ (arT Tryz.prog 68 = none ∧ Program.concrete Tryz.prog 68 = true) ∧ (Program.underlying Tryz.prog 68).isSome = true ∧ elT Tryz.prog 68 = none) ∧
((azT Tryz.prog 68 = some (12, 1, [.int .i64 0, .int .i64 0, .int .i64 0, .int .i64 0, .int .i64 0, .int .i64 0, .int .i64 0, .int .i64 0, .int .i64 0, .int .i64 0, .int .i64 0, .int .i64 0]) ∧ zeroT Tryz.prog 68 = some [.int .i64 0, .int .i64 0, .int .i64 0, .int .i64 0, .int .i64 0, .int .i64 0, .int .i64 0, .int .i64 0, .int .i64 0, .int .i64 0, .int .i64 0, .int .i64 0]) ∧
bT Tryz.prog 68 = true ∧ fldT Tryz.prog 68 0 = some (0, 6, true)) ∧ (fldT Tryz.prog 68 1 = some (6, 6, true) ∧ zT Tryz.prog 69 = some false) ∧ szT Tryz.prog 69 = some (1, false) ∧ arT Tryz.prog 69 = none ∧ Program.concrete Tryz.prog 69 = true) ∧
(((zT Tryz.prog 70 = some false ∧ szT Tryz.prog 70 = some (2, true)) ∧ arT Tryz.prog 70 = none ∧ Program.concrete Tryz.prog 70 = true) ∧ ((Program.underlying Tryz.prog 70).isSome = true ∧ elT Tryz.prog 70 = none) ∧ azT Tryz.prog 70 = some (2, 1, [.pointer none, .map none]) ∧
zeroT Tryz.prog 70 = some [.pointer none, .map none]) ∧ ((bT Tryz.prog 70 = true ∧ fldT Tryz.prog 70 0 = some (0, 1, false)) ∧ fldT Tryz.prog 70 1 = some (1, 1, false) ∧ zT Tryz.prog 71 = some false) ∧ (szT Tryz.prog 71 = some (2, true) ∧ arT Tryz.prog 71 = none) ∧
Program.concrete Tryz.prog 71 = true ∧ (Program.underlying Tryz.prog 71).isSome = true ∧ elT Tryz.prog 71 = none) ∧ ((((((azT Tryz.prog 71 = some (2, 1, [.pointer none, .map none]) ∧ zeroT Tryz.prog 71 = some [.pointer none, .map none]) ∧ bT Tryz.prog 71 = true ∧
fldT Tryz.prog 71 0 = some (0, 1, false)) ∧ (fldT Tryz.prog 71 1 = some (1, 1, false) ∧ zT Tryz.prog 72 = some false) ∧ szT Tryz.prog 72 = some (1, false) ∧ arT Tryz.prog 72 = none) ∧ ((Program.concrete Tryz.prog 72 = true ∧ zT Tryz.prog 73 = some false) ∧
szT Tryz.prog 73 = some (1, false) ∧ arT Tryz.prog 73 = none) ∧ (Program.concrete Tryz.prog 73 = true ∧ zT Tryz.prog 74 = some false) ∧ szT Tryz.prog 74 = some (1, false) ∧ arT Tryz.prog 74 = none) ∧ (((Program.concrete Tryz.prog 74 = true ∧ zT Tryz.prog 75 = some false) ∧
szT Tryz.prog 75 = some (1, false) ∧ arT Tryz.prog 75 = none) ∧ (Program.concrete Tryz.prog 75 = true ∧ zT Tryz.prog 76 = some false) ∧ szT Tryz.prog 76 = some (1, false) ∧ arT Tryz.prog 76 = none) ∧ ((Program.concrete Tryz.prog 76 = true ∧ zT Tryz.prog 77 = some false) ∧
szT Tryz.prog 77 = some (1, true) ∧ arT Tryz.prog 77 = none) ∧ (Program.concrete Tryz.prog 77 = true ∧ (Program.underlying Tryz.prog 77).isSome = true) ∧ elT Tryz.prog 77 = none ∧ azT Tryz.prog 77 = some (1, 1, [.slice none 0 0]) ∧ zeroT Tryz.prog 77 = some [.slice none 0 0]) ∧
((((bT Tryz.prog 77 = true ∧ fldT Tryz.prog 77 0 = some (0, 1, false)) ∧ zT Tryz.prog 78 = some false ∧ szT Tryz.prog 78 = some (1, true)) ∧ (arT Tryz.prog 78 = none ∧ Program.concrete Tryz.prog 78 = true) ∧ (Program.underlying Tryz.prog 78).isSome = true ∧
elT Tryz.prog 78 = none) ∧ ((azT Tryz.prog 78 = some (1, 1, [.slice none 0 0]) ∧ zeroT Tryz.prog 78 = some [.slice none 0 0]) ∧ bT Tryz.prog 78 = true ∧ fldT Tryz.prog 78 0 = some (0, 1, false)) ∧ (zT Tryz.prog 79 = some false ∧ szT Tryz.prog 79 = some (1, false)) ∧
arT Tryz.prog 79 = none ∧ zT Tryz.prog 80 = some false ∧ szT Tryz.prog 80 = some (1, false)) ∧ (((arT Tryz.prog 80 = none ∧ zT Tryz.prog 81 = some false) ∧ szT Tryz.prog 81 = some (1, false) ∧ arT Tryz.prog 81 = none) ∧ (Program.concrete Tryz.prog 81 = true ∧
zT Tryz.prog 82 = some false) ∧ szT Tryz.prog 82 = some (1, true) ∧ arT Tryz.prog 82 = none) ∧ ((Program.concrete Tryz.prog 82 = true ∧ (Program.underlying Tryz.prog 82).isSome = true) ∧ elT Tryz.prog 82 = none ∧ azT Tryz.prog 82 = some (1, 1, [.slice none 0 0])) ∧
(zeroT Tryz.prog 82 = some [.slice none 0 0] ∧ bT Tryz.prog 82 = true) ∧ fldT Tryz.prog 82 0 = some (0, 1, true) ∧ zT Tryz.prog 83 = some false ∧ szT Tryz.prog 83 = some (1, true)) ∧ (((((arT Tryz.prog 83 = none ∧ Program.concrete Tryz.prog 83 = true) ∧
(Program.underlying Tryz.prog 83).isSome = true ∧ elT Tryz.prog 83 = none) ∧ (azT Tryz.prog 83 = some (1, 1, [.slice none 0 0]) ∧ zeroT Tryz.prog 83 = some [.slice none 0 0]) ∧ bT Tryz.prog 83 = true ∧ fldT Tryz.prog 83 0 = some (0, 1, true)) ∧
((zT Tryz.prog 84 = some false ∧ szT Tryz.prog 84 = some (1, false)) ∧ arT Tryz.prog 84 = none ∧ Program.concrete Tryz.prog 84 = true) ∧ (zT Tryz.prog 85 = some false ∧ szT Tryz.prog 85 = some (1, false)) ∧ arT Tryz.prog 85 = none ∧ Program.concrete Tryz.prog 85 = true) ∧
(((zT Tryz.prog 86 = some false ∧ szT Tryz.prog 86 = some (1, false)) ∧ arT Tryz.prog 86 = none ∧ Program.concrete Tryz.prog 86 = true) ∧ (zT Tryz.prog 87 = some false ∧ szT Tryz.prog 87 = some (1, false)) ∧ azT Tryz.prog 87 = some (1, 1, [.pointer none]) ∧
arT Tryz.prog 87 = none) ∧ ((Program.concrete Tryz.prog 87 = true ∧ zT Tryz.prog 88 = some false) ∧ szT Tryz.prog 88 = some (1, false) ∧ arT Tryz.prog 88 = none) ∧ (Program.concrete Tryz.prog 88 = true ∧ zT Tryz.prog 89 = some false) ∧ szT Tryz.prog 89 = some (1, false) ∧
arT Tryz.prog 89 = none ∧ Program.concrete Tryz.prog 89 = true) ∧ (((((Program.underlying Tryz.prog 89).isSome = true ∧ intT Tryz.prog 89 = some .u64) ∧ elT Tryz.prog 89 = none ∧ azT Tryz.prog 89 = some (1, 1, [.int .u64 0])) ∧ (zeroT Tryz.prog 89 = some [.int .u64 0] ∧
zT Tryz.prog 90 = some false) ∧ szT Tryz.prog 90 = some (1, false) ∧ arT Tryz.prog 90 = none) ∧ ((Program.concrete Tryz.prog 90 = true ∧ (Program.underlying Tryz.prog 90).isSome = true) ∧ intT Tryz.prog 90 = some .u64 ∧ elT Tryz.prog 90 = none) ∧
(azT Tryz.prog 90 = some (1, 1, [.int .u64 0]) ∧ zeroT Tryz.prog 90 = some [.int .u64 0]) ∧ zT Tryz.prog 91 = some false ∧ szT Tryz.prog 91 = some (6, true) ∧ Program.concrete Tryz.prog 91 = true) ∧ ((((Program.underlying Tryz.prog 91).isSome = true ∧
elT Tryz.prog 91 = none) ∧ arT Tryz.prog 91 = some (6, 1, false) ∧ azT Tryz.prog 91 = some (1, 6, [.int .u64 0])) ∧ (zeroT Tryz.prog 91 = some [.int .u64 0, .int .u64 0, .int .u64 0, .int .u64 0, .int .u64 0, .int .u64 0] ∧ zT Tryz.prog 92 = some false) ∧
szT Tryz.prog 92 = some (6, true) ∧ Program.concrete Tryz.prog 92 = true) ∧ (((Program.underlying Tryz.prog 92).isSome = true ∧ elT Tryz.prog 92 = none) ∧ arT Tryz.prog 92 = some (6, 1, false) ∧ azT Tryz.prog 92 = some (1, 6, [.int .u64 0])) ∧
(zeroT Tryz.prog 92 = some [.int .u64 0, .int .u64 0, .int .u64 0, .int .u64 0, .int .u64 0, .int .u64 0] ∧ zT Tryz.prog 93 = some false) ∧ szT Tryz.prog 93 = some (10, true) ∧ arT Tryz.prog 93 = none ∧ Program.concrete Tryz.prog 93 = true) ∧ (((((((((Program.underlying Tryz.prog 93).isSome = true ∧
elT Tryz.prog 93 = none) ∧ azT Tryz.prog 93 = some (10, 1, [.slice none 0 0, .slice none 0 0, .slice none 0 0, .slice none 0 0, .int .u64 0, .int .u64 0, .int .u64 0, .int .u64 0, .int .u64 0, .int .u64 0]) ∧ zeroT Tryz.prog 93 = some [.slice none 0 0, .slice none 0 0, .slice none 0 0, .slice none 0 0, .int .u64 0, .int .u64 0, .int .u64 0, .int .u64 0, .int .u64 0, .int .u64 0]) ∧
(bT Tryz.prog 93 = true ∧ fldT Tryz.prog 93 0 = some (0, 4, true)) ∧ fldT Tryz.prog 93 1 = some (4, 6, true) ∧ zT Tryz.prog 94 = some false) ∧ ((szT Tryz.prog 94 = some (10, true) ∧ arT Tryz.prog 94 = none) ∧ Program.concrete Tryz.prog 94 = true ∧
(Program.underlying Tryz.prog 94).isSome = true) ∧ (elT Tryz.prog 94 = none ∧ azT Tryz.prog 94 = some (10, 1, [.slice none 0 0, .slice none 0 0, .slice none 0 0, .slice none 0 0, .int .u64 0, .int .u64 0, .int .u64 0, .int .u64 0, .int .u64 0, .int .u64 0])) ∧
zeroT Tryz.prog 94 = some [.slice none 0 0, .slice none 0 0, .slice none 0 0, .slice none 0 0, .int .u64 0, .int .u64 0, .int .u64 0, .int .u64 0, .int .u64 0, .int .u64 0] ∧ bT Tryz.prog 94 = true) ∧ (((fldT Tryz.prog 94 0 = some (0, 4, true) ∧
fldT Tryz.prog 94 1 = some (4, 6, true)) ∧ zT Tryz.prog 95 = some false ∧ szT Tryz.prog 95 = some (1, false)) ∧ (arT Tryz.prog 95 = none ∧ Program.concrete Tryz.prog 95 = true) ∧ zT Tryz.prog 96 = some false ∧ szT Tryz.prog 96 = some (1, false)) ∧
((arT Tryz.prog 96 = none ∧ Program.concrete Tryz.prog 96 = true) ∧ (Program.underlying Tryz.prog 96).isSome = true ∧ elT Tryz.prog 96 = some (2, true)) ∧ (elB Tryz.prog 96 = some (2, 16) ∧ bsT Tryz.prog 96 = some 2) ∧ mkT Tryz.prog 96 = some (2, 16, [.int .u64 0, .int .u64 0]) ∧
azT Tryz.prog 96 = some (1, 1, [.slice none 0 0]) ∧ zeroT Tryz.prog 96 = some [.slice none 0 0]) ∧ ((((zT Tryz.prog 97 = some false ∧ szT Tryz.prog 97 = some (1, false)) ∧ arT Tryz.prog 97 = none ∧ Program.concrete Tryz.prog 97 = true) ∧ (zT Tryz.prog 98 = some false ∧
szT Tryz.prog 98 = some (2, true)) ∧ arT Tryz.prog 98 = none ∧ Program.concrete Tryz.prog 98 = true) ∧ (((Program.underlying Tryz.prog 98).isSome = true ∧ elT Tryz.prog 98 = none) ∧ azT Tryz.prog 98 = some (2, 1, [.int .u64 0, .int .u64 0]) ∧ zeroT Tryz.prog 98 = some [.int .u64 0, .int .u64 0]) ∧
(bT Tryz.prog 98 = true ∧ fldT Tryz.prog 98 0 = some (0, 1, false)) ∧ fldT Tryz.prog 98 1 = some (1, 1, false) ∧ zT Tryz.prog 99 = some false ∧ szT Tryz.prog 99 = some (2, true)) ∧ (((arT Tryz.prog 99 = none ∧ Program.concrete Tryz.prog 99 = true) ∧
(Program.underlying Tryz.prog 99).isSome = true ∧ elT Tryz.prog 99 = none) ∧ (azT Tryz.prog 99 = some (2, 1, [.int .u64 0, .int .u64 0]) ∧ zeroT Tryz.prog 99 = some [.int .u64 0, .int .u64 0]) ∧ bT Tryz.prog 99 = true ∧ fldT Tryz.prog 99 0 = some (0, 1, false)) ∧
((fldT Tryz.prog 99 1 = some (1, 1, false) ∧ zT Tryz.prog 101 = some false) ∧ szT Tryz.prog 101 = some (1, false) ∧ arT Tryz.prog 101 = none) ∧ (Program.concrete Tryz.prog 101 = true ∧ zT Tryz.prog 102 = some false) ∧ szT Tryz.prog 102 = some (1, false) ∧
arT Tryz.prog 102 = none ∧ Program.concrete Tryz.prog 102 = true) ∧ (((((zT Tryz.prog 103 = some false ∧ szT Tryz.prog 103 = some (1, false)) ∧ arT Tryz.prog 103 = none ∧ Program.concrete Tryz.prog 103 = true) ∧ (zT Tryz.prog 104 = some false ∧
szT Tryz.prog 104 = some (1, false)) ∧ arT Tryz.prog 104 = none ∧ Program.concrete Tryz.prog 104 = true) ∧ ((zT Tryz.prog 105 = some false ∧ szT Tryz.prog 105 = some (1, false)) ∧ arT Tryz.prog 105 = none ∧ Program.concrete Tryz.prog 105 = true) ∧
(zT Tryz.prog 106 = some false ∧ szT Tryz.prog 106 = some (1, false)) ∧ arT Tryz.prog 106 = none ∧ Program.concrete Tryz.prog 106 = true) ∧ (((zT Tryz.prog 107 = some false ∧ szT Tryz.prog 107 = some (1, true)) ∧ arT Tryz.prog 107 = none ∧ Program.concrete Tryz.prog 107 = true) ∧
((Program.underlying Tryz.prog 107).isSome = true ∧ elT Tryz.prog 107 = none) ∧ azT Tryz.prog 107 = some (1, 1, [.nilFunc]) ∧ zeroT Tryz.prog 107 = some [.nilFunc]) ∧ ((bT Tryz.prog 107 = true ∧ fldT Tryz.prog 107 0 = some (0, 1, false)) ∧ zT Tryz.prog 108 = some false ∧
szT Tryz.prog 108 = some (1, true)) ∧ (arT Tryz.prog 108 = none ∧ Program.concrete Tryz.prog 108 = true) ∧ (Program.underlying Tryz.prog 108).isSome = true ∧ elT Tryz.prog 108 = none ∧ azT Tryz.prog 108 = some (1, 1, [.nilFunc])) ∧ ((((zeroT Tryz.prog 108 = some [.nilFunc] ∧
bT Tryz.prog 108 = true) ∧ fldT Tryz.prog 108 0 = some (0, 1, false) ∧ zT Tryz.prog 109 = some false) ∧ (szT Tryz.prog 109 = some (1, false) ∧ arT Tryz.prog 109 = none) ∧ Program.concrete Tryz.prog 109 = true ∧ zT Tryz.prog 110 = some false) ∧
((szT Tryz.prog 110 = some (1, false) ∧ arT Tryz.prog 110 = none) ∧ Program.concrete Tryz.prog 110 = true ∧ zT Tryz.prog 111 = some false) ∧ (szT Tryz.prog 111 = some (1, false) ∧ arT Tryz.prog 111 = none) ∧ Program.concrete Tryz.prog 111 = true ∧
zT Tryz.prog 112 = some false ∧ szT Tryz.prog 112 = some (1, false)) ∧ (((arT Tryz.prog 112 = none ∧ Program.concrete Tryz.prog 112 = true) ∧ zT Tryz.prog 113 = some false ∧ szT Tryz.prog 113 = some (1, false)) ∧ (arT Tryz.prog 113 = none ∧ Program.concrete Tryz.prog 113 = true) ∧
zT Tryz.prog 114 = some false ∧ szT Tryz.prog 114 = some (1, true)) ∧ ((arT Tryz.prog 114 = none ∧ Program.concrete Tryz.prog 114 = true) ∧ (Program.underlying Tryz.prog 114).isSome = true ∧ elT Tryz.prog 114 = none) ∧ (azT Tryz.prog 114 = some (1, 1, [.int .i64 0]) ∧
zeroT Tryz.prog 114 = some [.int .i64 0]) ∧ bT Tryz.prog 114 = true ∧ fldT Tryz.prog 114 0 = some (0, 1, false) ∧ zT Tryz.prog 115 = some false) ∧ ((((((szT Tryz.prog 115 = some (1, true) ∧ arT Tryz.prog 115 = none) ∧ Program.concrete Tryz.prog 115 = true ∧
(Program.underlying Tryz.prog 115).isSome = true) ∧ (elT Tryz.prog 115 = none ∧ azT Tryz.prog 115 = some (1, 1, [.int .i64 0])) ∧ zeroT Tryz.prog 115 = some [.int .i64 0] ∧ bT Tryz.prog 115 = true) ∧ ((fldT Tryz.prog 115 0 = some (0, 1, false) ∧
zT Tryz.prog 117 = some false) ∧ szT Tryz.prog 117 = some (6, true) ∧ Program.concrete Tryz.prog 117 = true) ∧ ((Program.underlying Tryz.prog 117).isSome = true ∧ elT Tryz.prog 117 = none) ∧ arT Tryz.prog 117 = some (6, 1, false) ∧ azT Tryz.prog 117 = some (1, 6, [.slice none 0 0])) ∧
(((zeroT Tryz.prog 117 = some [.slice none 0 0, .slice none 0 0, .slice none 0 0, .slice none 0 0, .slice none 0 0, .slice none 0 0] ∧ zT Tryz.prog 118 = some false) ∧ szT Tryz.prog 118 = some (9, true) ∧ arT Tryz.prog 118 = none) ∧ (Program.concrete Tryz.prog 118 = true ∧
(Program.underlying Tryz.prog 118).isSome = true) ∧ elT Tryz.prog 118 = none ∧ azT Tryz.prog 118 = some (9, 1, [.slice none 0 0, .slice none 0 0, .slice none 0 0, .slice none 0 0, .slice none 0 0, .slice none 0 0, .slice none 0 0, .slice none 0 0, .slice none 0 0])) ∧
((zeroT Tryz.prog 118 = some [.slice none 0 0, .slice none 0 0, .slice none 0 0, .slice none 0 0, .slice none 0 0, .slice none 0 0, .slice none 0 0, .slice none 0 0, .slice none 0 0] ∧ bT Tryz.prog 118 = true) ∧ fldT Tryz.prog 118 0 = some (0, 3, true) ∧
fldT Tryz.prog 118 1 = some (3, 6, true)) ∧ (zT Tryz.prog 119 = some false ∧ szT Tryz.prog 119 = some (9, true)) ∧ arT Tryz.prog 119 = none ∧ Program.concrete Tryz.prog 119 = true ∧ (Program.underlying Tryz.prog 119).isSome = true) ∧ ((((elT Tryz.prog 119 = none ∧
azT Tryz.prog 119 = some (9, 1, [.slice none 0 0, .slice none 0 0, .slice none 0 0, .slice none 0 0, .slice none 0 0, .slice none 0 0, .slice none 0 0, .slice none 0 0, .slice none 0 0])) ∧ zeroT Tryz.prog 119 = some [.slice none 0 0, .slice none 0 0, .slice none 0 0, .slice none 0 0, .slice none 0 0, .slice none 0 0, .slice none 0 0, .slice none 0 0, .slice none 0 0] ∧
bT Tryz.prog 119 = true) ∧ (fldT Tryz.prog 119 0 = some (0, 3, true) ∧ fldT Tryz.prog 119 1 = some (3, 6, true)) ∧ zT Tryz.prog 120 = some false ∧ szT Tryz.prog 120 = some (1, false)) ∧ ((arT Tryz.prog 120 = none ∧ Program.concrete Tryz.prog 120 = true) ∧
zT Tryz.prog 121 = some false ∧ szT Tryz.prog 121 = some (1, false)) ∧ (arT Tryz.prog 121 = none ∧ Program.concrete Tryz.prog 121 = true) ∧ zT Tryz.prog 122 = some false ∧ szT Tryz.prog 122 = some (1, false) ∧ arT Tryz.prog 122 = none) ∧ (((Program.concrete Tryz.prog 122 = true ∧
zT Tryz.prog 124 = some false) ∧ szT Tryz.prog 124 = some (6, true) ∧ arT Tryz.prog 124 = none) ∧ (Program.concrete Tryz.prog 124 = true ∧ (Program.underlying Tryz.prog 124).isSome = true) ∧ elT Tryz.prog 124 = none ∧ azT Tryz.prog 124 = some (6, 1, [.int .i64 0, .int .i64 0, .int .i64 0, .int .i64 0, .int .i64 0, .int .i64 0])) ∧
((zeroT Tryz.prog 124 = some [.int .i64 0, .int .i64 0, .int .i64 0, .int .i64 0, .int .i64 0, .int .i64 0] ∧ bT Tryz.prog 124 = true) ∧ fldT Tryz.prog 124 0 = some (0, 6, true) ∧ zT Tryz.prog 125 = some false) ∧ (szT Tryz.prog 125 = some (6, true) ∧
arT Tryz.prog 125 = none) ∧ Program.concrete Tryz.prog 125 = true ∧ (Program.underlying Tryz.prog 125).isSome = true ∧ elT Tryz.prog 125 = none) ∧ (((((azT Tryz.prog 125 = some (6, 1, [.int .i64 0, .int .i64 0, .int .i64 0, .int .i64 0, .int .i64 0, .int .i64 0]) ∧
zeroT Tryz.prog 125 = some [.int .i64 0, .int .i64 0, .int .i64 0, .int .i64 0, .int .i64 0, .int .i64 0]) ∧ bT Tryz.prog 125 = true ∧ fldT Tryz.prog 125 0 = some (0, 6, true)) ∧ (zT Tryz.prog 126 = some false ∧ szT Tryz.prog 126 = some (1, false)) ∧
arT Tryz.prog 126 = none ∧ Program.concrete Tryz.prog 126 = true) ∧ ((zT Tryz.prog 127 = some false ∧ szT Tryz.prog 127 = some (1, false)) ∧ arT Tryz.prog 127 = none ∧ Program.concrete Tryz.prog 127 = true) ∧ (zT Tryz.prog 128 = some false ∧ szT Tryz.prog 128 = some (1, false)) ∧
arT Tryz.prog 128 = none ∧ Program.concrete Tryz.prog 128 = true) ∧ (((zT Tryz.prog 129 = some false ∧ szT Tryz.prog 129 = some (1, false)) ∧ arT Tryz.prog 129 = none ∧ Program.concrete Tryz.prog 129 = true) ∧ (zT Tryz.prog 131 = some false ∧ szT Tryz.prog 131 = some (1, false)) ∧
arT Tryz.prog 131 = none ∧ Program.concrete Tryz.prog 131 = true) ∧ ((zT Tryz.prog 132 = some false ∧ szT Tryz.prog 132 = some (1, true)) ∧ arT Tryz.prog 132 = none ∧ Program.concrete Tryz.prog 132 = true) ∧ ((Program.underlying Tryz.prog 132).isSome = true ∧
elT Tryz.prog 132 = none) ∧ azT Tryz.prog 132 = some (1, 1, [.int .i64 0]) ∧ zeroT Tryz.prog 132 = some [.int .i64 0] ∧ bT Tryz.prog 132 = true) ∧ ((((fldT Tryz.prog 132 0 = some (0, 1, false) ∧ zT Tryz.prog 133 = some false) ∧ szT Tryz.prog 133 = some (1, true) ∧
arT Tryz.prog 133 = none) ∧ (Program.concrete Tryz.prog 133 = true ∧ (Program.underlying Tryz.prog 133).isSome = true) ∧ elT Tryz.prog 133 = none ∧ azT Tryz.prog 133 = some (1, 1, [.int .i64 0])) ∧ ((zeroT Tryz.prog 133 = some [.int .i64 0] ∧ bT Tryz.prog 133 = true) ∧
fldT Tryz.prog 133 0 = some (0, 1, false) ∧ zT Tryz.prog 136 = some false) ∧ (szT Tryz.prog 136 = some (1, false) ∧ arT Tryz.prog 136 = none) ∧ Program.concrete Tryz.prog 136 = true ∧ zT Tryz.prog 137 = some false ∧ szT Tryz.prog 137 = some (1, false)) ∧
(((arT Tryz.prog 137 = none ∧ Program.concrete Tryz.prog 137 = true) ∧ zT Tryz.prog 138 = some false ∧ szT Tryz.prog 138 = some (1, false)) ∧ (arT Tryz.prog 138 = none ∧ Program.concrete Tryz.prog 138 = true) ∧ zT Tryz.prog 139 = some false ∧ szT Tryz.prog 139 = some (1, false)) ∧
((arT Tryz.prog 139 = none ∧ Program.concrete Tryz.prog 139 = true) ∧ zT Tryz.prog 140 = some false ∧ szT Tryz.prog 140 = some (1, false)) ∧ (arT Tryz.prog 140 = none ∧ Program.concrete Tryz.prog 140 = true) ∧ zT Tryz.prog 141 = some false ∧ szT Tryz.prog 141 = some (1, false) ∧
arT Tryz.prog 141 = none) ∧ (((((((Program.concrete Tryz.prog 141 = true ∧ zT Tryz.prog 142 = some false) ∧ szT Tryz.prog 142 = some (1, false) ∧ arT Tryz.prog 142 = none) ∧ (Program.concrete Tryz.prog 142 = true ∧ zT Tryz.prog 143 = some false) ∧
szT Tryz.prog 143 = some (1, false) ∧ arT Tryz.prog 143 = none) ∧ ((Program.concrete Tryz.prog 143 = true ∧ zT Tryz.prog 144 = some false) ∧ szT Tryz.prog 144 = some (1, false) ∧ arT Tryz.prog 144 = none) ∧ (Program.concrete Tryz.prog 144 = true ∧
zT Tryz.prog 145 = some false) ∧ szT Tryz.prog 145 = some (1, false) ∧ arT Tryz.prog 145 = none) ∧ (((Program.concrete Tryz.prog 145 = true ∧ (Program.underlying Tryz.prog 145).isSome = true) ∧ intT Tryz.prog 145 = some .u32 ∧ elT Tryz.prog 145 = none) ∧
(azT Tryz.prog 145 = some (1, 1, [.int .u32 0]) ∧ zeroT Tryz.prog 145 = some [.int .u32 0]) ∧ zT Tryz.prog 146 = some false ∧ szT Tryz.prog 146 = some (1, false)) ∧ ((arT Tryz.prog 146 = none ∧ Program.concrete Tryz.prog 146 = true) ∧ zT Tryz.prog 147 = some false ∧
szT Tryz.prog 147 = some (1, false)) ∧ (arT Tryz.prog 147 = none ∧ Program.concrete Tryz.prog 147 = true) ∧ (Program.underlying Tryz.prog 147).isSome = true ∧ intT Tryz.prog 147 = some .u64 ∧ elT Tryz.prog 147 = none) ∧ ((((azT Tryz.prog 147 = some (1, 1, [.int .u64 0]) ∧
zeroT Tryz.prog 147 = some [.int .u64 0]) ∧ zT Tryz.prog 148 = some false ∧ szT Tryz.prog 148 = some (1, false)) ∧ (arT Tryz.prog 148 = none ∧ Program.concrete Tryz.prog 148 = true) ∧ (Program.underlying Tryz.prog 148).isSome = true ∧ elT Tryz.prog 148 = some (1, false)) ∧
((elB Tryz.prog 148 = some (1, 16) ∧ bsT Tryz.prog 148 = some 1) ∧ mkT Tryz.prog 148 = some (1, 16, [.nilIface]) ∧ azT Tryz.prog 148 = some (1, 1, [.slice none 0 0])) ∧ (zeroT Tryz.prog 148 = some [.slice none 0 0] ∧ zT Tryz.prog 149 = some false) ∧
szT Tryz.prog 149 = some (1, false) ∧ arT Tryz.prog 149 = none ∧ Program.concrete Tryz.prog 149 = true) ∧ (((zT Tryz.prog 150 = some false ∧ szT Tryz.prog 150 = some (1, false)) ∧ arT Tryz.prog 150 = none ∧ zT Tryz.prog 151 = some false) ∧ (szT Tryz.prog 151 = some (1, false) ∧
arT Tryz.prog 151 = none) ∧ zT Tryz.prog 152 = some false ∧ szT Tryz.prog 152 = some (1, false)) ∧ ((arT Tryz.prog 152 = none ∧ Program.concrete Tryz.prog 152 = true) ∧ zT Tryz.prog 153 = some false ∧ szT Tryz.prog 153 = some (1, false)) ∧ (arT Tryz.prog 153 = none ∧
Program.concrete Tryz.prog 153 = true) ∧ zT Tryz.prog 154 = some false ∧ szT Tryz.prog 154 = some (1, false) ∧ arT Tryz.prog 154 = none) ∧ (((((Program.concrete Tryz.prog 154 = true ∧ zT Tryz.prog 155 = some false) ∧ szT Tryz.prog 155 = some (1, false) ∧
arT Tryz.prog 155 = none) ∧ (Program.concrete Tryz.prog 155 = true ∧ zT Tryz.prog 156 = some false) ∧ szT Tryz.prog 156 = some (1, false) ∧ arT Tryz.prog 156 = none) ∧ ((Program.concrete Tryz.prog 156 = true ∧ zT Tryz.prog 158 = some false) ∧ szT Tryz.prog 158 = some (1, false) ∧
arT Tryz.prog 158 = none) ∧ (Program.concrete Tryz.prog 158 = true ∧ zT Tryz.prog 159 = some false) ∧ szT Tryz.prog 159 = some (1, false) ∧ arT Tryz.prog 159 = none) ∧ (((Program.concrete Tryz.prog 159 = true ∧ (Program.underlying Tryz.prog 159).isSome = true) ∧
elT Tryz.prog 159 = some (1, false) ∧ elB Tryz.prog 159 = some (1, 8)) ∧ (bsT Tryz.prog 159 = some 1 ∧ mkT Tryz.prog 159 = some (1, 8, [.int .u64 0])) ∧ azT Tryz.prog 159 = some (1, 1, [.slice none 0 0]) ∧ zeroT Tryz.prog 159 = some [.slice none 0 0]) ∧
((zT Tryz.prog 160 = some false ∧ szT Tryz.prog 160 = some (1, false)) ∧ arT Tryz.prog 160 = none ∧ Program.concrete Tryz.prog 160 = true) ∧ (zT Tryz.prog 161 = some false ∧ szT Tryz.prog 161 = some (1, false)) ∧ arT Tryz.prog 161 = none ∧ Program.concrete Tryz.prog 161 = true ∧
zT Tryz.prog 162 = some true) ∧ ((((szT Tryz.prog 162 = some (0, true) ∧ arT Tryz.prog 162 = none) ∧ Program.concrete Tryz.prog 162 = true ∧ (Program.underlying Tryz.prog 162).isSome = true) ∧ (elT Tryz.prog 162 = none ∧ azT Tryz.prog 162 = some (0, 1, [])) ∧
zeroT Tryz.prog 162 = some [] ∧ bT Tryz.prog 162 = true) ∧ ((zT Tryz.prog 163 = some true ∧ szT Tryz.prog 163 = some (0, true)) ∧ arT Tryz.prog 163 = none ∧ Program.concrete Tryz.prog 163 = true) ∧ ((Program.underlying Tryz.prog 163).isSome = true ∧
elT Tryz.prog 163 = none) ∧ azT Tryz.prog 163 = some (0, 1, []) ∧ zeroT Tryz.prog 163 = some [] ∧ bT Tryz.prog 163 = true) ∧ (((zT Tryz.prog 164 = none ∧ szT Tryz.prog 164 = some (2, true)) ∧ arT Tryz.prog 164 = none ∧ Program.concrete Tryz.prog 164 = true) ∧
((Program.underlying Tryz.prog 164).isSome = true ∧ elT Tryz.prog 164 = none) ∧ azT Tryz.prog 164 = some (2, 1, [.int .i64 0, .bool false]) ∧ zeroT Tryz.prog 164 = some [.int .i64 0, .bool false]) ∧ ((bT Tryz.prog 164 = true ∧ fldT Tryz.prog 164 0 = none) ∧
zfO Tryz.prog 164 0 = some 0 ∧ zf1T Tryz.prog 164 0 164 = true) ∧ (fldT Tryz.prog 164 1 = some (0, 2, true) ∧ zT Tryz.prog 165 = none) ∧ szT Tryz.prog 165 = some (2, true) ∧ arT Tryz.prog 165 = none ∧ Program.concrete Tryz.prog 165 = true) ∧ (((((((Program.underlying Tryz.prog 165).isSome = true ∧
elT Tryz.prog 165 = none) ∧ azT Tryz.prog 165 = some (2, 1, [.int .i64 0, .bool false]) ∧ zeroT Tryz.prog 165 = some [.int .i64 0, .bool false]) ∧ (bT Tryz.prog 165 = true ∧ fldT Tryz.prog 165 0 = none) ∧ zfO Tryz.prog 165 0 = some 0 ∧ zf1T Tryz.prog 165 0 165 = true) ∧
((fldT Tryz.prog 165 1 = some (0, 2, true) ∧ zT Tryz.prog 166 = some false) ∧ szT Tryz.prog 166 = some (1, false) ∧ arT Tryz.prog 166 = none) ∧ (Program.concrete Tryz.prog 166 = true ∧ zT Tryz.prog 167 = some false) ∧ szT Tryz.prog 167 = some (1, false) ∧
arT Tryz.prog 167 = none) ∧ (((Program.concrete Tryz.prog 167 = true ∧ (Program.underlying Tryz.prog 167).isSome = true) ∧ intT Tryz.prog 167 = some .i64 ∧ elT Tryz.prog 167 = none) ∧ (azT Tryz.prog 167 = some (1, 1, [.int .i64 0]) ∧ zeroT Tryz.prog 167 = some [.int .i64 0]) ∧
zT Tryz.prog 169 = some false ∧ szT Tryz.prog 169 = some (1, false)) ∧ ((arT Tryz.prog 169 = none ∧ Program.concrete Tryz.prog 169 = true) ∧ zT Tryz.prog 170 = some false ∧ szT Tryz.prog 170 = some (1, false)) ∧ (arT Tryz.prog 170 = none ∧ Program.concrete Tryz.prog 170 = true) ∧
zT Tryz.prog 171 = some false ∧ szT Tryz.prog 171 = some (1, false) ∧ arT Tryz.prog 171 = none) ∧ ((((Program.concrete Tryz.prog 171 = true ∧ zT Tryz.prog 172 = some false) ∧ szT Tryz.prog 172 = some (1, false) ∧ arT Tryz.prog 172 = none) ∧ (Program.concrete Tryz.prog 172 = true ∧
zT Tryz.prog 173 = some false) ∧ szT Tryz.prog 173 = some (1, false) ∧ arT Tryz.prog 173 = none) ∧ ((Program.concrete Tryz.prog 173 = true ∧ zT Tryz.prog 174 = some false) ∧ szT Tryz.prog 174 = some (1, false) ∧ arT Tryz.prog 174 = none) ∧ (Program.concrete Tryz.prog 174 = true ∧
zT Tryz.prog 175 = some false) ∧ szT Tryz.prog 175 = some (1, false) ∧ arT Tryz.prog 175 = none ∧ Program.concrete Tryz.prog 175 = true) ∧ (((zT Tryz.prog 176 = some false ∧ szT Tryz.prog 176 = some (1, false)) ∧ arT Tryz.prog 176 = none ∧ Program.concrete Tryz.prog 176 = true) ∧
(zT Tryz.prog 177 = some false ∧ szT Tryz.prog 177 = some (1, false)) ∧ arT Tryz.prog 177 = none ∧ Program.concrete Tryz.prog 177 = true) ∧ ((zT Tryz.prog 178 = some false ∧ szT Tryz.prog 178 = some (1, false)) ∧ arT Tryz.prog 178 = none ∧ Program.concrete Tryz.prog 178 = true) ∧
(zT Tryz.prog 179 = some false ∧ szT Tryz.prog 179 = some (1, false)) ∧ arT Tryz.prog 179 = none ∧ Program.concrete Tryz.prog 179 = true ∧ (Program.underlying Tryz.prog 179).isSome = true) ∧ (((((intT Tryz.prog 179 = some .u64 ∧ elT Tryz.prog 179 = none) ∧
azT Tryz.prog 179 = some (1, 1, [.int .u64 0]) ∧ zeroT Tryz.prog 179 = some [.int .u64 0]) ∧ (zT Tryz.prog 180 = some false ∧ szT Tryz.prog 180 = some (1, false)) ∧ arT Tryz.prog 180 = none ∧ Program.concrete Tryz.prog 180 = true) ∧ ((zT Tryz.prog 181 = some false ∧
szT Tryz.prog 181 = some (1, false)) ∧ arT Tryz.prog 181 = none ∧ Program.concrete Tryz.prog 181 = true) ∧ (zT Tryz.prog 182 = some false ∧ szT Tryz.prog 182 = some (1, false)) ∧ arT Tryz.prog 182 = none ∧ Program.concrete Tryz.prog 182 = true) ∧
(((zT Tryz.prog 183 = some false ∧ szT Tryz.prog 183 = some (1, false)) ∧ azT Tryz.prog 183 = some (1, 1, [.pointer none]) ∧ arT Tryz.prog 183 = none) ∧ (Program.concrete Tryz.prog 183 = true ∧ zT Tryz.prog 184 = some false) ∧ szT Tryz.prog 184 = some (1, false) ∧
arT Tryz.prog 184 = none) ∧ ((Program.concrete Tryz.prog 184 = true ∧ zT Tryz.prog 185 = some false) ∧ szT Tryz.prog 185 = some (1, false) ∧ arT Tryz.prog 185 = none) ∧ (Program.concrete Tryz.prog 185 = true ∧ zT Tryz.prog 186 = some false) ∧ szT Tryz.prog 186 = some (1, false) ∧
arT Tryz.prog 186 = none ∧ Program.concrete Tryz.prog 186 = true) ∧ ((((zT Tryz.prog 187 = some false ∧ szT Tryz.prog 187 = some (1, false)) ∧ azT Tryz.prog 187 = some (1, 1, [.pointer none]) ∧ arT Tryz.prog 187 = none) ∧ (Program.concrete Tryz.prog 187 = true ∧
zT Tryz.prog 189 = some false) ∧ szT Tryz.prog 189 = some (1, false) ∧ arT Tryz.prog 189 = none) ∧ ((Program.concrete Tryz.prog 189 = true ∧ zT Tryz.prog 190 = some false) ∧ szT Tryz.prog 190 = some (1, false) ∧ arT Tryz.prog 190 = none) ∧ (Program.concrete Tryz.prog 190 = true ∧
zT Tryz.prog 191 = some false) ∧ szT Tryz.prog 191 = some (1, false) ∧ arT Tryz.prog 191 = none ∧ Program.concrete Tryz.prog 191 = true) ∧ (((zT Tryz.prog 199 = some false ∧ szT Tryz.prog 199 = some (1, false)) ∧ arT Tryz.prog 199 = none ∧ Program.concrete Tryz.prog 199 = true) ∧
(zT Tryz.prog 200 = some false ∧ szT Tryz.prog 200 = some (1, false)) ∧ azT Tryz.prog 200 = some (1, 1, [.pointer none]) ∧ arT Tryz.prog 200 = none) ∧ ((Program.concrete Tryz.prog 200 = true ∧ zT Tryz.prog 205 = some false) ∧ szT Tryz.prog 205 = some (1, false) ∧
arT Tryz.prog 205 = none) ∧ (Program.concrete Tryz.prog 205 = true ∧ (Program.underlying Tryz.prog 205).isSome = true) ∧ elT Tryz.prog 205 = none ∧ azT Tryz.prog 205 = some (1, 1, [.pointer none]) ∧ zeroT Tryz.prog 205 = some [.pointer none] := by
 and_intros <;> kernel_rfl

end Go.Proofs.YtclkjifgipcamaaGreat
end
section
set_option linter.unusedVariables false
set_option linter.unusedSimpArgs false
namespace Go.V
set_option linter.unusedSectionVars false
variable [Inhabited GivT]
theorem mapM_move {α β : Type} {f g : α → Option β} {Q : β → Prop} : ∀ (l : List α) (ys : List β), (∀ x ∈ l, ∀ y, f x = some y → Q y → g x = some y) → l.mapM f = some ys → (∀ y ∈ ys, Q y) → l.mapM g = some ys
 | [], ys, _, h, _ => by simpa using h
 | x :: l, ys, hfg, h, hq => by
   rw [List.mapM_cons] at h ⊢
   simp only [Option.bind_eq_bind, Option.bind_eq_some_iff, Option.pure_def, Option.some.injEq] at h ⊢
   obtain ⟨y, hy, zs, hz, rfl⟩ := h
   exact ⟨y, hfg x (by simp) y hy (hq y (by simp)), zs, mapM_move l zs (fun a ha => hfg a (by simp [ha])) hz (fun a ha => hq a (by simp [ha])), rfl⟩

theorem mapM_get {α β : Type} {f : α → Option β} : ∀ (l : List α) (ys : List β), l.mapM f = some ys → ys.length = l.length ∧ ∀ (i : Nat) (x : α), l[i]? = some x → ∃ y, ys[i]? = some y ∧ f x = some y
 | [], ys, h => by
   simp at h; subst h; simp
 | x :: l, ys, h => by
   rw [List.mapM_cons] at h
   simp only [Option.bind_eq_bind, Option.bind_eq_some_iff, Option.pure_def, Option.some.injEq] at h
   obtain ⟨y, hy, zs, hz, rfl⟩ := h
   obtain ⟨h1, h2⟩ := mapM_get l zs hz
   refine ⟨by simp [h1], fun i a ha => ?_⟩
   cases i with
   | zero => simp at ha; subst ha; exact ⟨y, by simp, hy⟩
   | succ i => simpa using h2 i a (by simpa using ha)

/-- Types of numbers, truths, structs and slices of such. -/
def goodT (P : Program) : Nat → TypeId → Bool
 | 0, _ => false
 | d + 1, t => match P.underlying t with
   | some .bool => true
   | some (.int _) => true
   | some (.struct fs) => fs.toList.all fun f => goodT P d f.type
   | some (.slice e) => decide (0 < P.cellsOf e) && goodT P d e
   | some (.array _ e) => goodT P d e
   | _ => false

theorem cell_move {W W' : World} (hh : ∀ b, b < W.heap.size → W'.heap[b]? = W.heap[b]?) {a : Addr} {v : Value} (h : W.cell? a = some v) : W'.cell? a = some v := by
 unfold World.cell? at h ⊢
 split at h
 ·rename_i c e fz hb
  rw [hh _ (Array.getElem?_eq_some_iff.1 hb).1, hb]
  exact h
 ·cases h

theorem cells_move {W W' : World} (hh : ∀ b, b < W.heap.size → W'.heap[b]? = W.heap[b]?) {base : Nat} {a : Addr} {n : Nat} {vs : List Value} (h : W.cells? base a n = some vs) : W'.cells? base a n = some vs := by
 unfold World.cells? at h ⊢
 split at h
 ·rename_i hb
  rw [if_pos hb]
  exact mapM_move (Q := fun _ => True) _ _ (fun i _ y hy _ => cell_move hh hy) h (fun _ _ => trivial)
 ·cases h

theorem trod_move {H : Type} {enc : TypeId × Value → H} {P : Program} {W W' : World} {held : Bool} (hh : ∀ b, b < W.heap.size → W'.heap[b]? = W.heap[b]?) {sp : Nat → Bool} :
  ∀ (d fuel : Nat) (t : TypeId) (cs : List Value) (x : DataW H × List MemPlace), goodT P d t = true → DataW.trod enc P W 0 (fun _ => true) held fuel t cs = some x → (∀ p ∈ x.2, sp p.block = true) →
    DataW.trod enc P W' 0 sp held fuel t cs = some x := by
 intro d
 induction d with
 | zero => intro fuel t cs x hg; cases hg
 | succ d ih =>
   intro fuel t cs x hg h hs
   cases fuel with
   | zero => cases h
   | succ fuel =>
     unfold goodT at hg
     unfold DataW.trod at h ⊢
     cases hu : P.underlying t with
     | none => rw [hu] at hg; cases hg
     | some td =>
       rw [hu] at hg h
       cases td <;> simp only at hg <;> try (exact absurd hg Bool.false_ne_true)
       case bool =>
        split at h <;> simp_all
       case int k =>
        split at h <;> simp_all
       case struct fs =>
        split at h <;> try (simp_all; done)
        case _ fs' heq =>
         simp only [Option.some.injEq, TypeDesc.struct.injEq] at heq
         subst heq
         split at h
         case isTrue hl =>
          rw [if_pos hl]
          rw [Option.map_eq_some_iff] at h ⊢
          obtain ⟨ys, hy, rfl⟩ := h
          refine ⟨ys, ?_, rfl⟩
          refine mapM_move (Q := fun y => ∀ p ∈ y.2, sp p.block = true) _ _ (fun f hf y hy hq => ?_) hy (fun y hy p hp => hs p (List.mem_flatMap.2 ⟨y, hy, hp⟩))
          exact ih fuel f.type _ y (List.all_eq_true.1 hg f hf) hy hq
         case isFalse hl => cases h
       case array n e =>
        split at h <;> try (simp_all; done)
        case _ n' e' heq =>
         simp only [Option.some.injEq, TypeDesc.array.injEq] at heq
         obtain ⟨rfl, rfl⟩ := heq
         split at h
         case isTrue hl =>
          rw [if_pos hl]
          rw [Option.map_eq_some_iff] at h ⊢
          obtain ⟨ys, hy, rfl⟩ := h
          refine ⟨ys, ?_, rfl⟩
          refine mapM_move (Q := fun y => ∀ p ∈ y.2, sp p.block = true) _ _ (fun i _ y hy hq => ?_) hy (fun y hy p hp => hs p (List.mem_flatMap.2 ⟨y, hy, hp⟩))
          exact ih fuel e _ y hg hy hq
         case isFalse hl => cases h
       case slice e =>
        simp only [Bool.and_eq_true, decide_eq_true_eq] at hg
        obtain ⟨hpos, hg⟩ := hg
        split at h <;> try (simp_all; done)
        case _ e' a len cap heq =>
         simp only [Option.some.injEq, TypeDesc.slice.injEq] at heq
         subst heq
         have hel : ∀ i y, (W.cells? 0 (a.add (i * P.cellsOf e)) (P.cellsOf e)).bind (DataW.trod enc P W 0 (fun _ => true) held fuel e) = some y → (∀ p ∈ y.2, sp p.block = true) →
           (W'.cells? 0 (a.add (i * P.cellsOf e)) (P.cellsOf e)).bind (DataW.trod enc P W' 0 sp held fuel e) = some y := by
          intro i y hy hq
          rw [Option.bind_eq_some_iff] at hy ⊢
          obtain ⟨c, h1, h2⟩ := hy
          exact ⟨c, cells_move hh h1, ih fuel e c y hg h2 hq⟩
         simp only at h ⊢
         split at h
         case isFalse hl => cases h
         case isTrue hl =>
          rw [if_pos hl]
          rw [Option.bind_eq_some_iff] at h ⊢
          obtain ⟨es, he, h⟩ := h
          rw [if_pos trivial, Option.map_eq_some_iff] at h
          obtain ⟨rs, hr, rfl⟩ := h
          have hs2 : ∀ y ∈ es ++ rs, ∀ p ∈ y.2, sp p.block = true := fun y hy p hp => hs p (List.mem_append.2 (.inr (List.mem_flatMap.2 ⟨y, hy, hp⟩)))
          refine ⟨es, mapM_move (Q := fun y => ∀ p ∈ y.2, sp p.block = true) _ _ (fun i _ y hy hq => hel i y hy hq) he (fun y hy => hs2 y (by simp [hy])), ?_⟩
          rw [Option.map_eq_some_iff]
          refine ⟨rs, ?_, rfl⟩
          have hrl := (mapM_get _ _ hr).1
          by_cases hz : es.length + rs.length = 0
          ·have : rs = [] := List.eq_nil_of_length_eq_zero (by omega)
           subst this
           have hc : cap - len = 0 := by simpa using hrl.symm
           split
           ·rw [hc]; rfl
           ·rfl
          ·have hsp : sp a.block = true := by
            refine hs (.cell a.block (a.off + 0)) (List.mem_append.2 (.inl ?_))
            unfold MemPlace.row
            refine List.mem_map.2 ⟨0, List.mem_range.2 ?_, rfl⟩
            exact Nat.mul_pos (by omega) hpos
           rw [if_pos hsp]
           exact mapM_move (Q := fun y => ∀ p ∈ y.2, sp p.block = true) _ _ (fun j _ y hy hq => hel _ y hy hq) hr (fun y hy => hs2 y (by simp [hy]))

theorem trodAll_move {H : Type} {enc : TypeId × Value → H} {P : Program} {W W' : World} {held : Bool} (hh : ∀ b, b < W.heap.size → W'.heap[b]? = W.heap[b]?) {sp : Nat → Bool} (d : Nat) :
  ∀ (ts : List TypeId) (vs : List Value) (ds : List (DataW H)) (ps : List MemPlace), (∀ t ∈ ts, goodT P d t = true) → DataW.TrodAll enc P W 0 (fun _ => true) held ts vs ds ps → (∀ p ∈ ps, sp p.block = true) →
    DataW.TrodAll enc P W' 0 sp held ts vs ds ps
 | [], [], [], ps, _, h, _ => h
 | t :: ts, v :: vs, x :: ds, ps, hg, h, hs => by
   obtain ⟨p, q, ⟨fuel, h1⟩, h2, rfl⟩ := h
   exact ⟨p, q, ⟨fuel, trod_move hh d fuel t _ (x, p) (hg t (by simp)) h1 (fun z hz => hs z (by simp [hz]))⟩, trodAll_move hh d ts vs ds q (fun u hu => hg u (by simp [hu])) h2 (fun z hz => hs z (by simp [hz])), rfl⟩
 | [], _ :: _, _, _, _, h, _ => h.elim
 | [], [], _ :: _, _, _, h, _ => h.elim
 | _ :: _, [], _, _, _, h, _ => h.elim
 | _ :: _, _ :: _, [], _, _, h, _ => h.elim

/-- The state in which a call begins: all memory that is there is never written. -/
def st0 (W : World) : St := { w := W, imm := fun b => b < W.heap.size, loc := fun _ _ => .unk, next := 0 }
def H0 : Hp := fun _ => none
theorem st0_rel (W : World) (hg : ∀ p ∈ (default : GivT).l, VRel (st0 W) p.1 p.2) : HRel (st0 W) H0 := ⟨fun i _ => ⟨rfl, fun _ => rfl⟩, fun b h => h, fun i o h => (by cases h), fun i j o o' b h => (by cases h), hg⟩

inductive LitK where
 | int (k : IntKind)
 | bool
 deriving DecidableEq

def LitK.ok : LitK → Value → Prop
 | .int k, v => ∃ n, v = .int k n ∧ (Lit.int k n).wf = true
 | .bool, v => ∃ b, v = .bool b

/-- A type whose values are so many numbers and truths. -/
def litsT (P : Program) : Nat → TypeId → Option (List LitK)
 | 0, _ => none
 | d + 1, t => match P.underlying t with
   | some .bool => some [.bool]
   | some (.int k) => some [.int k]
   | some (.struct fs) => match fs.toList.foldl (fun acc f => match acc with
     | some ks => match litsT P d f.type with
       | some l => if f.offset = ks.length ∧ P.cellsOf f.type = l.length then some (ks ++ l) else none
       | none => none
     | none => none) (some []) with
     | some ks => if P.cellsOf t = ks.length then some ks else none
     | none => none
   | _ => none

def LitsOk (ks : List LitK) (cs : List Value) : Prop := cs.length = ks.length ∧ ∀ (i : Nat) (k : LitK) (v : Value), ks[i]? = some k → cs[i]? = some v → k.ok v

theorem LitsOk.append {ks ls : List LitK} {cs ds : List Value} (h : LitsOk ks cs) (h' : LitsOk ls ds) : LitsOk (ks ++ ls) (cs ++ ds) := by
 refine ⟨by simp [h.1, h'.1], fun i k v hk hv => ?_⟩
 by_cases hi : i < ks.length
 ·rw [List.getElem?_append_left hi] at hk
  rw [List.getElem?_append_left (by rw [h.1]; exact hi)] at hv
  exact h.2 i k v hk hv
 ·rw [List.getElem?_append_right (by omega)] at hk
  rw [List.getElem?_append_right (by rw [h.1]; omega), h.1] at hv
  exact h'.2 _ k v hk hv

theorem trod_lits {H : Type} {enc : TypeId × Value → H} {P : Program} {W : World} {held : Bool} {sp : Nat → Bool} :
  ∀ (d fuel : Nat) (t : TypeId) (cs : List Value) (x : DataW H × List MemPlace) (ks : List LitK), litsT P d t = some ks → DataW.trod enc P W 0 sp held fuel t cs = some x → LitsOk ks cs := by
 intro d
 induction d with
 | zero => intro fuel t cs x ks hg; cases hg
 | succ d ih =>
   intro fuel t cs x ks hg h
   cases fuel with
   | zero => cases h
   | succ fuel =>
     unfold litsT at hg
     unfold DataW.trod at h
     cases hu : P.underlying t with
     | none => rw [hu] at hg; cases hg
     | some td =>
       rw [hu] at hg h
       cases td <;> simp only at hg <;> try (cases hg; done)
       case bool =>
        cases hg
        split at h <;> simp_all
        rename_i b
        exact ⟨rfl, fun i k v hk hv => by cases i <;> simp at hk hv; subst hk hv; exact ⟨_, rfl⟩⟩
       case int k =>
        cases hg
        split at h <;> simp_all
        rename_i n hh
        exact ⟨rfl, fun i k v hk hv => by cases i <;> simp at hk hv; subst hk hv; exact ⟨_, rfl, h.1.2⟩⟩
       case struct fs =>
        split at h <;> try (simp_all; done)
        case _ fs' heq =>
         simp only [Option.some.injEq, TypeDesc.struct.injEq] at heq
         subst heq
         split at h
         case isFalse hl => cases h
         case isTrue hl =>
          rw [Option.map_eq_some_iff] at h
          obtain ⟨ys, hy, rfl⟩ := h
          have key : ∀ (c : List Value) (l : List Field) (acc ks : List LitK), (∀ f ∈ l, ∃ y, DataW.trod enc P W 0 sp held fuel f.type ((c.drop f.offset).take (P.cellsOf f.type)) = some y) → LitsOk acc (c.take acc.length) →
            l.foldl (fun acc f => match acc with
             | some ks => match litsT P d f.type with
               | some l => if f.offset = ks.length ∧ P.cellsOf f.type = l.length then some (ks ++ l) else none
               | none => none
             | none => none) (some acc) = some ks → LitsOk ks (c.take ks.length) := by
           intro c l
           induction l with
           | nil => intro acc ks _ ha he; simp at he; subst he; exact ha
           | cons f l ih2 =>
             intro acc ks hf ha he
             simp only [List.foldl_cons] at he
             have hnone : ∀ l : List Field, l.foldl (fun acc f => match acc with
              | some ks => match litsT P d f.type with
                | some l => if f.offset = ks.length ∧ P.cellsOf f.type = l.length then some (ks ++ l) else none
                | none => none
              | none => none) none = (none : Option (List LitK)) := by
              intro l; induction l with
              | nil => rfl
              | cons a l ih => simpa using ih
             cases hl2 : litsT P d f.type with
             | none => rw [hl2] at he; simp only at he; rw [hnone] at he; cases he
             | some lk =>
               rw [hl2] at he
               simp only at he
               by_cases hc : f.offset = acc.length ∧ P.cellsOf f.type = lk.length
               ·rw [if_pos hc] at he
                obtain ⟨y, hy⟩ := hf f (by simp)
                have := ih fuel f.type _ y lk hl2 hy
                rw [hc.1, hc.2] at this
                have hap := ha.append this
                refine ih2 (acc ++ lk) ks (fun g hg => hf g (by simp [hg])) ?_ he
                rw [List.length_append, List.take_add]
                exact hap
               ·rw [if_neg hc, hnone] at he; cases he
          split at hg
          case h_2 => cases hg
          case h_1 ks' he =>
           split at hg
           case isFalse => cases hg
           case isTrue hc =>
            cases hg
            have := key _ fs.toList [] ks (fun f hf => by
             obtain ⟨i, hi⟩ := List.getElem?_of_mem hf
             obtain ⟨y, _, h2⟩ := (mapM_get _ _ hy).2 i f hi
             exact ⟨y, h2⟩) ⟨by simp, fun i k v hk => by simp at hk⟩ he
            rw [List.take_of_length_le (by rw [hl, hc]; exact Nat.le_refl _)] at this
            exact this

end Go.V
end
section
set_option linter.unusedVariables false
set_option linter.unusedSimpArgs false
namespace Go.V
set_option linter.unusedSectionVars false
variable [Inhabited GivT]
theorem trod_slice_rel {H : Type} {enc : TypeId × Value → H} {P : Program} {W : World} {held : Bool} {sp : Nat → Bool} {d fuel : Nat} {t e : TypeId} {v : Value} {x : DataW H × List MemPlace} {ks : List LitK}
  (ht : P.underlying t = some (.slice e)) (hk : litsT P d e = some ks) (hsz : P.cellsOf e = ks.length) (hpos : 0 < ks.length) (h : DataW.trod enc P W 0 sp held fuel t [v] = some x) :
  ∃ (n : Nat) (g : Nat → List Value), n ≤ maxLen ∧ (∀ i, i < n → LitsOk ks (g i)) ∧ VRel (st0 W) (.rsl n ks.length (fun i => (g i).map AV.lit)) v := by
 cases fuel with
 | zero => cases h
 | succ fuel =>
   unfold DataW.trod at h
   rw [ht] at h
   split at h <;> try (simp_all; done)
   ·rename_i heq heq2
    simp only [List.cons.injEq, and_true] at heq2
    subst heq2
    exact ⟨0, fun _ => [], Nat.zero_le _, fun i hi => by omega, .rsl0⟩
   ·rename_i e' a len cap heq heq2
    simp only [Option.some.injEq, TypeDesc.slice.injEq] at heq
    simp only [List.cons.injEq, and_true] at heq2
    subst heq heq2
    simp only at h
    split at h
    case isFalse hl => cases h
    case isTrue hl =>
     rw [Option.bind_eq_some_iff] at h
     obtain ⟨es, he, -⟩ := h
     let g : Nat → List Value := fun i => match W.cells? 0 (a.add (i * P.cellsOf e)) (P.cellsOf e) with
      | some c => c
      | none => []
     have hel : ∀ i, i < len → W.cells? 0 (a.add (i * P.cellsOf e)) (P.cellsOf e) = some (g i) ∧ LitsOk ks (g i) := by
      intro i hi
      obtain ⟨y, _, hy⟩ := (mapM_get _ _ he).2 i i (by simp [hi])
      rw [Option.bind_eq_some_iff] at hy
      obtain ⟨c, h1, h2⟩ := hy
      have : g i = c := by simp only [g, h1]
      rw [this]
      exact ⟨h1, trod_lits d fuel _ c y ks hk h2⟩
     refine ⟨len, g, Nat.le_trans hl.2.1 hl.2.2, fun i hi => (hel i hi).2, ?_⟩
     by_cases h0 : len = 0
     ·subst h0; exact .rsl0
     have hcell : ∀ i j, i < len → j < ks.length → ∃ u, (g i)[j]? = some u ∧ W.cell? ((a.add (i * P.cellsOf e)).add j) = some u := by
      intro i j hi hj
      have h1 := (hel i hi).1
      unfold World.cells? at h1
      rw [if_pos (Nat.zero_le _)] at h1
      exact (mapM_get _ _ h1).2 j j (by simp [hsz, hj])
     obtain ⟨b, off, spot⟩ := a
     obtain ⟨u0, _, hc0⟩ := hcell 0 0 (by omega) hpos
     rw [show ((⟨b, off, spot⟩ : Addr).add (0 * P.cellsOf e)).add 0 = ⟨b, off, spot⟩ from by simp [Addr.add]] at hc0
     unfold World.cell? at hc0
     split at hc0
     case h_2 => cases hc0
     case h_1 c ct fz hb =>
      have hspot : spot = none := by
       cases spot with
       | none => rfl
       | some s => simp at hc0
      subst hspot
      have hadd : ∀ i j, (((⟨b, off, none⟩ : Addr).add (i * P.cellsOf e)).add j) = ⟨b, off + i * P.cellsOf e + j, none⟩ := fun i j => by rw [addr_add, addr_add]
      have hall : ∀ i j, i < len → j < ks.length → ∃ u, (g i)[j]? = some u ∧ c[off + i * ks.length + j]? = some u := by
       intro i j hi hj
       obtain ⟨u, h1, h2⟩ := hcell i j hi hj
       rw [hadd] at h2
       unfold World.cell? at h2
       simp only at hb
       rw [show W.heap[(⟨b, off + i * P.cellsOf e + j, none⟩ : Addr).block]? = some (.cells c ct fz) from hb] at h2
       simp only [Option.isSome_none, Bool.false_eq_true, if_false, hsz] at h2
       exact ⟨u, h1, h2⟩
      refine .rsl (c := c) (e := ct) (fz := fz) ?_ hb ?_ (fun i hi => by simpa using (hel i hi).2.1) (fun i j hi hj => ?_) hl.2.1
      ·exact (Array.getElem?_eq_some_iff.1 hb).1
      ·obtain ⟨u, _, h2⟩ := hall (len - 1) (ks.length - 1) (by omega) (by omega)
       have := (Array.getElem?_eq_some_iff.1 h2).1
       have e1 : len * ks.length = (len - 1) * ks.length + ks.length := by
        obtain ⟨q, rfl⟩ : ∃ q, len = q + 1 := ⟨len - 1, by omega⟩
        rw [Nat.add_sub_cancel, Nat.succ_mul]
       omega
      ·obtain ⟨u, h1, h2⟩ := hall i j hi hj
       rw [List.getD_eq_getElem?_getD, List.getElem?_map, h1, Array.getD_eq_getD_getElem?, h2]
       exact .lit _

end Go.V
end
section
set_option linter.unusedVariables false
set_option linter.unusedSimpArgs false
namespace Go.V
set_option linter.unusedSectionVars false
variable [Inhabited GivT]
open Go.ChangeShapes Go.WideShapes
theorem law_post {H : Type} {enc : TypeId × Value → H} {P : Program} {f : Func} {s : ChangeSpec} {apart fresh handsOn again : Bool} {W W' : World} {args : Array Value} {ds gs : List (DataW H)} {before : List MemPlace} {tb : TypeId} {d : Nat}
  (hv0 : s.vars = []) (hrt : f.resultTypes = #[tb]) (hb : P.underlying tb = some .bool) (hgood : ∀ t ∈ f.params.toList, goodT P d t = true)
  (hW : DataW.Whole enc P f.params.toList s.vars apart W args.toList ds gs before)
  (hfn : s.fn H (ds ++ gs) = { results := [.lit (.bool true)], args := ds })
  (hh : ∀ b, b < W.heap.size → W'.heap[b]? = W.heap[b]?) (hos : W'.os = W.os) (hout : W'.output = W.output) : s.post enc P f apart fresh handsOn again W args (.bool true) W' := by
 have hW' := hW
 obtain ⟨p, q, hA, hV, rfl, hz, hn⟩ := hW
 rw [hv0] at hV
 have hgq : gs = [] ∧ q = [] := by
  cases gs with
  | nil => exact ⟨rfl, hV⟩
  | cons _ _ => exact hV.elim
 obtain ⟨rfl, rfl⟩ := hgq
 have hlt : ∀ z ∈ p ++ [], z.block < W.heap.size := fun z hz => hW'.lt z hz
 have hold : ∀ z ∈ p, (fun b => decide (b < W.heap.size)) z.block = true := fun z hz => by simpa using hlt z (by simpa using hz)
 have hres : ∀ (b : Nat) (sp : Nat → Bool) (hd : Bool), DataW.TrodAll enc P W' b sp hd f.resultTypes.toList ((Value.bool true).resultList f.resultTypes.size) (s.fn H (ds ++ [])).results [] := by
  intro b sp hd
  rw [hfn, hrt]
  exact ⟨[], [], ⟨1, by simp [DataW.trod, hb, Value.cells]⟩, rfl, rfl⟩
 have hargs : ∀ sp : Nat → Bool, (∀ z ∈ p, sp z.block = true) → DataW.TrodAll enc P W' 0 sp true f.params.toList args.toList (s.fn H (ds ++ [])).args p := by
  intro sp hs
  rw [hfn]
  exact trodAll_move hh d _ _ _ _ hgood hA hs
 refine ⟨ds, [], p ++ [], [], p, [], hW', hres _ _ _, hargs _ hold, ?_, ⟨hos, hout, fun i hi => ?_⟩, fun _ => ?_⟩
 ·rw [hv0, hfn]; exact rfl
 ·rw [hh i hi]
  cases W.heap[i]? with
  | none => rfl
  | some o => cases o <;> first | exact ⟨rfl, rfl, rfl, fun _ _ => rfl⟩ | exact .inr ⟨rfl, rfl⟩ | rfl
 ·refine ⟨fun j t r h1 h2 => ?_, _, [], ([] ++ p) ++ [], ⟨[] ++ p, [], trodAll_append (hargs _ (fun _ _ => rfl)) (hres _ _ _), ?_, rfl, ?_, ?_⟩, ?_⟩
  ·rw [hrt] at h1 h2
   have hj : j = 0 := by
    have := (Array.getElem?_eq_some_iff.1 h1).1
    simp at this; omega
   subst hj
   simp [Value.resultList] at h1 h2
   subst h1 h2
   simp [Value.okWide, hb, Cell.okWide, Cell.ok]
  ·rw [hv0]; exact rfl
  ·intro b off hm
   have hm' : MemPlace.cell b off ∈ p ++ [] := by simpa using hm
   have := hz b off hm'
   have hb' : b < W.heap.size := hlt _ hm'
   unfold World.frozen? at this ⊢
   simp only [hh b hb']
   exact this
  ·intro ha
   have := hn ha
   simpa using this
  ·intro z hz _
   simpa using hz

end Go.V
end
section
set_option linter.unusedVariables false
set_option linter.unusedSimpArgs false
namespace Go.V
set_option linter.unusedSectionVars false
variable [Inhabited GivT]
theorem law_calls {P : Program} {f : FuncId} {fn : Func} {c : Code} {W : World} {args : Array Value} {avs : List AV} (hf : P.funcs[f]? = some fn) (hname : (fn.name == "runtime.NumGoroutine") = false) (hb : fn.body = some c)
  (hT : Tri P (.func (.func f) [] []) avs H0 fun r _ => r = .ret (.lit (.bool true))) (hg : ∀ p ∈ (default : GivT).l, VRel (st0 W) p.1 p.2) (ha : VRels (st0 W) avs args.toList) :
  Calls P f args W fun e W' => e = .returned (.bool true) ∧ (∀ b, b < W.heap.size → W'.heap[b]? = W.heap[b]?) ∧ W'.os = W.os ∧ W'.output = W.output := by
 obtain ⟨nx, h1, h2⟩ := hT (st0 W) (.func (.func f) #[] #[]) args.toList (st0_rel W hg) (.func rfl rfl (fun k hk => absurd hk (by simp)) (fun k hk => absurd hk (by simp))) ha
 have hcf : (callFunc f args).run P W = .ok (.enter f args) W := by
  simp only [callFunc, Sem.run_bind, run_program, Result.andThen_ok, hf, hname, hb]
  simp
 simp only [Deferred.ofValue, Sem.run_bind, Sem.run_pure, Result.andThen_ok, invoke] at h1
 have e : (#[] : Array Value) ++ args.toList.toArray ++ #[] = args := by simp
 rw [e] at h1
 have h1' : (callFunc f args).run P W = .ok nx W := h1
 rw [hcf] at h1'
 injection h1' with h1' _
 subst h1'
 refine Calls.mono h2 ?_
 rintro e w ⟨S', r, H', rfl, hle, hH', hrr, hr⟩
 subst hr
 refine ⟨?_, fun b hb => hle.keep b hb, hle.os, hle.output⟩
 cases e with
 | returned v => rw [VRel.lit_inv hrr]
 | panicked ch => exact hrr.elim
 | outgrown => exact hrr.elim

end Go.V
end
section
set_option linter.unusedVariables false
set_option linter.unusedSimpArgs false
namespace Go.V
set_option linter.unusedSectionVars false
variable [Inhabited GivT]
open Go.ChangeShapes
def st2 (P : Program) (t a oa b ob : Nat) : Bool := match P.underlying t with
 | some (.struct fs) => (match fs.toList with
   | [f0, f1] => f0.type == a && f0.offset == oa && f1.type == b && f1.offset == ob
   | _ => false)
 | _ => false
end Go.V
end
section
set_option linter.unusedVariables false
namespace Go.V
set_option linter.unusedSectionVars false
variable [Inhabited GivT]
theorem frz_step {S : St} {H : Hp} {id st n : Nat} {f : Nat → List AV} (hH : HRel S H) (ho : H id = some (.row st n f)) :
  ∃ S2, S2.w = S.w ∧ Le S S2 ∧ HRel S2 (H.del id) ∧ ∀ v, VRel S (.sl id st n) v → VRel S2 (.rsl n st f) v := by
 obtain ⟨hg, hcase⟩ := hH.obj id _ ho
 rcases hcase with ⟨rfl, hnil⟩ | ⟨b, c, e, hl, hb, hni, hc⟩
 ·refine ⟨S, rfl, Le.refl S, hH.sub ?_, ?_⟩
  ·intro j o' hj
   by_cases ej : j = id
   ·simp [Hp.del, ej] at hj
   ·exact ⟨o', by rw [Hp.del_ne _ ej] at hj; exact hj, .refl _⟩
  ·intro v this
   cases this with
   | sl hl => rw [hnil] at hl; cases hl
   | slnil _ => exact .rsl0
 ·have hle := S.frz_le b
  refine ⟨S.frz b, rfl, hle, ?_, ?_⟩
  ·refine ⟨fun i hi => ⟨?_, (hH.fresh i hi).2⟩, ?_, ?_, ?_, fun p hp => (hH.giv p hp).mono hle⟩
   ·simp only [Hp.del]; split
    ·rfl
    ·exact (hH.fresh i hi).1
   ·rintro x (hx | rfl)
    ·exact hH.immlt x hx
    ·exact (Array.getElem?_eq_some_iff.1 hb).1
   ·intro i o hi
    have ne : i ≠ id := by intro e; simp [Hp.del, e] at hi
    rw [Hp.del_ne _ ne] at hi
    have old := hH.obj i o hi
    have hne : ∀ x, S.loc i o.gen = .blk x → x ≠ b := fun x hx e => ne (hH.inj i id o _ x hi ho hx (by subst e; exact hl))
    cases o with
    | box st' n' f' =>
      obtain ⟨b', c', e', h1, h2, h3, h4⟩ := old
      exact ⟨b', c', e', h1, h2, fun hx => hx.elim h3 (hne b' h1), h4.1, h4.2.1, fun i j hi hj => (h4.2.2 i j hi hj).mono hle⟩
    | row st' n' f' =>
      obtain ⟨g1, old⟩ := old
      refine ⟨g1, old.imp (fun x => x) ?_⟩
      rintro ⟨b', c', e', h1, h2, h3, h4⟩
      exact ⟨b', c', e', h1, h2, fun hx => hx.elim h3 (hne b' h1), h4.1, h4.2.1, fun i j hi hj => (h4.2.2 i j hi hj).mono hle⟩
    | memo F =>
      obtain ⟨b', es, k, h1, h2, h3, h4⟩ := old
      exact ⟨b', es, k, h1, h2, fun hx => hx.elim h3 (hne b' h1), h4⟩
    | raw o =>
      obtain ⟨b', h1, h2, h3, h4⟩ := old
      exact ⟨b', h1, h2, h3, fun hx => hx.elim h4 (hne b' h1)⟩
    | iter mid since seen c0 =>
      obtain ⟨r', b', h1, h2, h3, h4⟩ := old
      exact ⟨r', b', h1, h2, h3, fun hx => hx.elim h4 (hne r' h1)⟩
    | loop l n s ps assign body st pend did =>
      obtain ⟨h1, h2, fn, tmps, D, h3, h4, h5, h6⟩ := old
      exact ⟨h1, fun hx => hx.elim h2 (hne l h1), fn, tmps, D, h3, h4, h5.mono hle, h6⟩
   ·intro i j o o' x hi hj
    have ne : i ≠ id := by intro e; simp [Hp.del, e] at hi
    have ne' : j ≠ id := by intro e; simp [Hp.del, e] at hj
    rw [Hp.del_ne _ ne] at hi
    rw [Hp.del_ne _ ne'] at hj
    exact hH.inj i j o o' x hi hj
  ·intro v this
   cases this with
   | sl hl' hb' _ hlen' =>
     rw [hl] at hl'; cases hl'
     exact .rsl (off := 0) (.inr rfl) hb (by rw [Nat.zero_add]; exact hc.1) hc.2.1 (fun i j hi hj => by rw [Nat.zero_add]; exact (hc.2.2 i j hi hj).mono hle) hlen'
   | slnil hl' => rw [hl] at hl'; cases hl'

/-- What is frozen: the row's slices become its data. -/
def Frz (id st n : Nat) (f : Nat → List AV) (x y : AV) : Prop := y = x ∨ (x = .sl id st n ∧ y = .rsl n st f)
theorem Frz.rfl {id st n : Nat} {f : Nat → List AV} {x : AV} : Frz id st n f x x := .inl (Eq.refl x)
theorem Frz.hit {id st n : Nat} {f : Nat → List AV} : Frz id st n f (.sl id st n) (.rsl n st f) := .inr ⟨Eq.refl _, Eq.refl _⟩

/-- A row that is written no more, of which a box tells. -/
theorem Ent.freezeBox {s s' : Fr} {ds : List AD} {H : Hp} {K : Fr → List AD → Hp → Prop} {id st n j st' n' : Nat} {f g g' : Nat → List AV} (ho : H id = some (.row st n f)) (hj : H j = some (.box st' n' g))
  (hs : ∀ t, Frz id st n f (s t) (s' t)) (hl : ∀ k, k < n' → (g' k).length = st') (hg : ∀ k c, k < n' → c < st' → Frz id st n f ((g k).getD c .any) ((g' k).getD c .any))
  (h : K s' ds ((H.del id).set j (.box st' n' g'))) : Ent s ds H K := by
 intro S a hH hF hD
 obtain ⟨S2, hw, hle, h2, hc⟩ := frz_step hH ho
 have hne : j ≠ id := fun e => by rw [e, ho] at hj; cases hj
 have conv : ∀ x y v, Frz id st n f x y → VRel S x v → VRel S2 y v := fun x y v hxy hv => by
  rcases hxy with rfl | ⟨rfl, rfl⟩
  ·exact hv.mono hle
  ·exact hc v hv
 have hj2 : (H.del id) j = some (.box st' n' g) := by rw [Hp.del_ne _ hne]; exact hj
 refine ⟨S2, s', ds, _, hw, hle, ?_, fun t => conv _ _ _ (hs t) (hF t), hD.mono hle, h⟩
 obtain ⟨b, c, e, a1, a2, a3, a4⟩ := hH.obj j _ hj
 obtain ⟨b2, c2, e2, q1, q2, q3, q4⟩ := h2.obj j _ hj2
 have eb : b2 = b := by
  have := hle.locBlk a1
  rw [this] at q1
  cases q1; rfl
 subst eb
 rw [hw, a2] at q2
 cases q2
 refine ⟨fun i hi => ⟨?_, (h2.fresh i hi).2⟩, h2.immlt, ?_, ?_, h2.giv⟩
 ·have hi' := (h2.fresh i hi).1
  by_cases ei : i = j
  ·subst ei; rw [hj2] at hi'; cases hi'
  ·rw [Hp.set_ne _ _ ei]; exact hi'
 ·intro i o hi
  by_cases ei : i = j
  ·subst ei
   rw [Hp.set_same] at hi
   cases hi
   exact ⟨b2, c, e, q1, by rw [hw]; exact a2, q3, a4.1, hl, fun k d hk hd => conv _ _ _ (hg k d hk hd) (a4.2.2 k d hk hd)⟩
  ·rw [Hp.set_ne _ _ ei] at hi
   exact h2.obj i o hi
 ·intro i i' o o' x hi hi' hx hx'
  have back : ∀ k o, ((H.del id).set j (.box st' n' g')) k = some o → ∃ p, (H.del id) k = some p ∧ p.gen = o.gen := fun k o hk => by
   by_cases ek : k = j
   ·subst ek
    rw [Hp.set_same] at hk
    cases hk
    exact ⟨_, hj2, Eq.refl _⟩
   ·rw [Hp.set_ne _ _ ek] at hk
    exact ⟨o, hk, Eq.refl _⟩
  obtain ⟨p, p1, p2⟩ := back i o hi
  obtain ⟨p', p1', p2'⟩ := back i' o' hi'
  exact h2.inj i i' p p' x p1 p1' (by rw [p2]; exact hx) (by rw [p2']; exact hx')

end Go.V
end
section
set_option linter.unusedVariables false
namespace Go.V
set_option linter.unusedSectionVars false
variable [Inhabited GivT]
theorem HRel.boxUpd {S : St} {H : Hp} {j st n : Nat} {g g' : Nat → List AV} (hH : HRel S H) (hj : H j = some (.box st n g)) (hl : ∀ k, k < n → (g' k).length = st)
  (hg : ∀ k d v, k < n → d < st → VRel S ((g k).getD d .any) v → VRel S ((g' k).getD d .any) v) : HRel S (H.set j (.box st n g')) := by
 obtain ⟨b, c, e, q1, q2, q3, q4⟩ := hH.obj j _ hj
 refine ⟨fun i hi => ⟨?_, (hH.fresh i hi).2⟩, hH.immlt, ?_, ?_, hH.giv⟩
 ·have hi' := (hH.fresh i hi).1
  by_cases ei : i = j
  ·subst ei; rw [hj] at hi'; cases hi'
  ·rw [Hp.set_ne _ _ ei]; exact hi'
 ·intro i o hi
  by_cases ei : i = j
  ·subst ei
   rw [Hp.set_same] at hi
   cases hi
   exact ⟨b, c, e, q1, q2, q3, q4.1, hl, fun k d hk hd => hg k d _ hk hd (q4.2.2 k d hk hd)⟩
  ·rw [Hp.set_ne _ _ ei] at hi
   exact hH.obj i o hi
 ·intro i i' o o' x hi hi' hx hx'
  have back : ∀ k o, (H.set j (.box st n g')) k = some o → ∃ p, H k = some p ∧ p.gen = o.gen := fun k o hk => by
   by_cases ek : k = j
   ·subst ek
    rw [Hp.set_same] at hk
    cases hk
    exact ⟨_, hj, Eq.refl _⟩
   ·rw [Hp.set_ne _ _ ek] at hk
    exact ⟨o, hk, Eq.refl _⟩
  obtain ⟨p, p1, p2⟩ := back i o hi
  obtain ⟨p', p1', p2'⟩ := back i' o' hi'
  exact hH.inj i i' p p' x p1 p1' (by rw [p2]; exact hx) (by rw [p2']; exact hx')

/-- Nil becomes a row of none. -/
def Nld (id st : Nat) (x y : AV) : Prop := y = x ∨ (x = .lit (.slice none 0 0) ∧ y = .sl id st 0)
theorem Nld.rfl {id st : Nat} {x : AV} : Nld id st x x := .inl (Eq.refl x)
theorem Nld.hit {id st : Nat} : Nld id st (.lit (.slice none 0 0)) (.sl id st 0) := .inr ⟨Eq.refl _, Eq.refl _⟩

theorem Ent.nilBox {s : Fr} {ds : List AD} {H : Hp} {K : Fr → List AD → Hp → Prop} {j st' n' : Nat} {g : Nat → List AV} (st : Nat) (f : Nat → List AV) (g' : Nat → Nat → List AV) (hj : H j = some (.box st' n' g))
  (hl : ∀ id k, k < n' → (g' id k).length = st') (hg : ∀ id k c, k < n' → c < st' → Nld id st ((g k).getD c .any) ((g' id k).getD c .any))
  (h : ∀ id, H id = none → K s ds ((H.set id (.row st 0 f)).set j (.box st' n' (g' id)))) : Ent s ds H K := by
 intro S a hH hF hD
 have hnone := St.next_none hH
 have hle := S.layNil_le hH
 have hne : j ≠ S.next := fun e => by rw [← e, hj] at hnone; cases hnone
 have h2 := hH.layNil st f
 have hj2 : (H.set S.next (.row st 0 f)) j = some (.box st' n' g) := by rw [Hp.set_ne _ _ hne]; exact hj
 refine ⟨S.layNil, s, ds, _, rfl, hle, h2.boxUpd hj2 (hl S.next) (fun k d v hk hd hv => ?_), fun t => (hF t).mono hle, hD.mono hle, h S.next hnone⟩
 rcases hg S.next k d hk hd with e | ⟨e1, e2⟩
 ·rw [e]; exact hv
 ·rw [e2]
  rw [e1] at hv
  have := hv.lit_inv
  subst this
  exact .slnil (by simp [St.layNil])

end Go.V
end
section
set_option linter.unusedVariables false
namespace Go.V
set_option linter.unusedSectionVars false
variable [Inhabited GivT]
/-- A value in which a row is now data. -/
inductive FrzD (id st n : Nat) (f : Nat → List AV) : AV → AV → Prop
 | same (x : AV) : FrzD id st n f x x
 | hit {g : Nat → List AV} (h : ∀ i, i < n → f i = g i) : FrzD id st n f (.sl id st n) (.rsl n st g)
 | agg {cs cs' : List AV} (hl : cs'.length = cs.length) (h : ∀ k, k < cs.length → FrzD id st n f (cs.getD k .any) (cs'.getD k .any)) : FrzD id st n f (.agg cs) (.agg cs')
 | tuple {cs cs' : List AV} (hl : cs'.length = cs.length) (h : ∀ k, k < cs.length → FrzD id st n f (cs.getD k .any) (cs'.getD k .any)) : FrzD id st n f (.tuple cs) (.tuple cs')

theorem FrzD.conv {S S2 : St} {id st n : Nat} {f : Nat → List AV} (hle : Le S S2) (hc : ∀ v, VRel S (.sl id st n) v → VRel S2 (.rsl n st f) v) {x y : AV} (hxy : FrzD id st n f x y) : ∀ v, VRel S x v → VRel S2 y v := by
 induction hxy with
 | same x => intro v hv; exact hv.mono hle
 | hit h => intro v hv; exact AV.Le.rsl h _ _ (hc v hv)
 | agg hl h ih =>
   intro v hv
   cases hv with
   | agg hn hv => exact .agg (hn.trans hl.symm) fun k hk => ih k (by omega) _ (hv k (by omega))
 | tuple hl h ih =>
   intro v hv
   cases hv with
   | tuple hn hv => exact .tuple (hn.trans hl.symm) fun k hk => ih k (by omega) _ (hv k (by omega))

/-- A row that is handed back inside a value, to be written no more. -/
theorem Tri.thawD {P : Program} {fv : AV} {args : List AV} {H : Hp} {R1 R : Res → Hp → Prop} (h : Tri P fv args H R1)
  (hR : ∀ r H', R1 r H' → R r H' ∨ ∃ v v' id st n f, r = .ret v ∧ H' id = some (.row st n f) ∧ FrzD id st n f v v' ∧ R (.ret v') (H'.del id)) : Tri P fv args H R := by
 intro S vf vs hH hvf ha
 obtain ⟨nx, h1, h2⟩ := h S vf vs hH hvf ha
 have ho : ∀ e w, Out S R1 e w → Out S R e w := by
  rintro e w ⟨S', r, H', hw, hle, hH', hres, hr⟩
  rcases hR r H' hr with hr | ⟨v, v', id, st, n, f, rfl, hob, hf, hr⟩
  ·exact ⟨S', r, H', hw, hle, hH', hres, hr⟩
  ·cases e with
   | returned cv =>
     obtain ⟨S2, hw2, hle2, hH2, hc⟩ := frz_step hH' hob
     exact ⟨S2, .ret v', _, hw2.trans hw, hle.trans hle2, hH2, hf.conv hle2 hc cv hres, hr⟩
   | _ => exact hres.elim
 refine ⟨nx, h1, ?_⟩
 cases nx <;> simp only [NextOk] at h2 ⊢
 ·exact Calls.mono h2 ho
 ·exact h2.mono ho

theorem tri_freezeD {P : Program} {fv : AV} {args args' : List AV} {H : Hp} {R : Res → Hp → Prop} {id st n : Nat} {f : Nat → List AV} (ho : H id = some (.row st n f)) (hl : args'.length = args.length)
  (hs : ∀ k, k < args.length → FrzD id st n f (args.getD k .any) (args'.getD k .any)) (h : Tri P fv args' (H.del id) R) : Tri P fv args H R := by
 intro S vf vs hH hvf ha
 obtain ⟨S2, hw, hle, h2, hc⟩ := frz_step hH ho
 have conv : ∀ x y, FrzD id st n f x y → ∀ v, VRel S x v → VRel S2 y v := fun x y hxy => hxy.conv hle hc
 obtain ⟨nx, h1, h3⟩ := h S2 vf vs h2 (hvf.mono hle) ⟨by rw [hl]; exact ha.1, fun k hk => conv _ _ (hs k (by omega)) _ (ha.2 k (by omega))⟩
 rw [hw] at h1
 have hout : ∀ e w, Out S2 R e w → Out S R e w := fun e w ⟨S3, r, H2, a, b, c, d, e'⟩ => ⟨S3, r, H2, a, hle.trans b, c, d, e'⟩
 refine ⟨nx, h1, ?_⟩
 cases nx <;> simp only [NextOk] at h3 ⊢
 ·rw [hw] at h3; exact Calls.mono h3 hout
 ·rw [hw] at h3; exact h3.mono hout

end Go.V
end
section
set_option linter.unusedVariables false
namespace Go.V
set_option linter.unusedSectionVars false
variable [Inhabited GivT]
section
variable {r : Option Nat} {P : Program} {m : Option Tmp → Bool} {n : Nat} {k : List It} {s : Fr} {ds : List AD} {H : Hp} {Q : Post}
theorem vs_entL {c : Code} (h : Ent s ds H fun s ds H => VS r P m n (.code (.loop c) :: k) s ds H Q) : VS r P m n (.code (.loop c) :: k) s ds H Q :=
 (wps_ent h : WPS r P n (.loop c) s ds H (TK r P m n k Q))
end
end Go.V
end
section
set_option linter.unusedVariables false
set_option linter.unusedSimpArgs false
namespace Go.V
set_option linter.unusedSectionVars false
variable [Inhabited GivT]
abbrev i64 (n : Int) : AV := .lit (.int .i64 n)
abbrev u64 (n : Int) : AV := .lit (.int .u64 n)
abbrev u8 (n : Int) : AV := .lit (.int .u8 n)
abbrev u16 (n : Int) : AV := .lit (.int .u16 n)
abbrev boo (b : Bool) : AV := .lit (.bool b)
abbrev bx (n : Int) : AV := .rptr 1 1 (fun _ => [i64 n]) 0 0

theorem getD_snoc {α : Type} (l : List α) (x d : α) (k : Nat) : (l ++ [x]).getD k d = if k = l.length then x else l.getD k d := by
 by_cases h : k = l.length
 ·subst h; simp
 ·rw [if_neg h]
  by_cases h2 : k < l.length
  ·rw [List.getD_eq_getElem?_getD, List.getD_eq_getElem?_getD, List.getElem?_append_left h2]
  ·rw [List.getD_eq_getElem?_getD, List.getD_eq_getElem?_getD, List.getElem?_eq_none (by simp; omega), List.getElem?_eq_none (by omega)]
theorem getD_mem {α : Type} {l : List α} {x : α} (d : α) (h : x ∈ l) : ∃ i, i < l.length ∧ l.getD i d = x := by
 obtain ⟨i, hi, e⟩ := List.getElem_of_mem h
 exact ⟨i, hi, by rw [List.getD_eq_getElem?_getD, List.getElem?_eq_getElem hi]; exact e⟩
/-- A list, each thing of which is so many cells. -/
def lF {α : Type} (en : α → List AV) (d : α) (l : List α) : Nat → List AV := fun i => en (l.getD i d)
theorem lF_at {α : Type} (en : α → List AV) (d : α) (l : List α) (i : Nat) : lF en d l i = en (l.getD i d) := rfl
theorem app_lF {α : Type} (en : α → List AV) (d : α) (l : List α) (x : α) (g : Nat → List AV) (hg : g 0 = en x) : appF l.length 1 (lF en d l) g = lF en d (l ++ [x]) := by
 funext k
 simp only [appF, lF, hg, getD_snoc]
 split <;> rfl
abbrev enI (z : Int) : List AV := [i64 z]
abbrev enN (z : Nat) : List AV := [i64 (z : Int)]
abbrev enU (z : Nat) : List AV := [u64 (z : Int)]
def intF (l : List Int) : Nat → List AV := fun i => [i64 (l.getD i 0)]
abbrev intsAV (l : List Int) : AV := .rsl l.length 1 (intF l)
theorem intF_at (l : List Int) (i : Nat) : intF l i = [i64 (l.getD i 0)] := rfl
theorem app_ints (l : List Int) (w : Int) (g : Nat → List AV) (hg : g 0 = [i64 w]) : appF l.length 1 (intF l) g = intF (l ++ [w]) := app_lF enI 0 l w g hg
def llF (l : List (List Int)) : Nat → List AV := fun i => [intsAV (l.getD i [])]
abbrev llAV (l : List (List Int)) : AV := .rsl l.length 1 (llF l)
theorem bit_eq (S i : Nat) : decide ((((S : Int) / 2 ^ i).toNat &&& Int.toNat 1 : Nat) = (1 : Int)) = S.testBit i := by
 have e : ((S : Int) / 2 ^ i).toNat = S / 2 ^ i := by
  have : (S : Int) / 2 ^ i = ((S / 2 ^ i : Nat) : Int) := by simp
  rw [this]; rfl
 rw [e, Nat.testBit_eq_decide_div_mod_eq]
 show decide (((S / 2 ^ i &&& 1 : Nat) : Int) = 1) = _
 rw [Nat.and_one_is_mod]
 congr 1
 apply propext
 omega
/-- How many bits there are. -/
def popN : Nat → Nat → Nat
 | 0, _ => 0
 | f + 1, s => s % 2 + popN f (s / 2)
def pop (s : Nat) : Nat := popN 64 s
theorem thn_normal {K : Fr → List AD → Hp → Prop} {Q : Post} {s : Fr} {ds : List AD} {H : Hp} : Post.thn K Q .normal s ds H = K s ds H := rfl

end Go.V
end
section
set_option linter.unusedVariables false
namespace Go.V
set_option linter.unusedSectionVars false
variable [Inhabited GivT]
theorem AV.Le.nil (st : Nat) (f : Nat → List AV) : AV.Le (.lit (.slice none 0 0)) (.rsl 0 st f) := by
 intro S v hv
 have := hv.lit_inv
 subst this
 exact .rsl0
end Go.V
end
section
set_option linter.unusedVariables false
set_option linter.unusedSimpArgs false
namespace Go.V
set_option linter.unusedSectionVars false
variable [Inhabited GivT]
theorem tri_inv {P : Program} {T : TypeId} {nm : String} {f : FuncId} {recv : AV} {args : List AV} {H : Hp} {R : Res → Hp → Prop} (hm : methT P T nm f) (h : Tri P (fnA f) (recv :: args) H R) :
  Tri P (.func (.method nm) [] []) (.iface T recv :: args) H R := by
 intro S vf vs hH hvf ha
 cases hvf with
 | @func _ _ _ ws us hn hu h1 h2 =>
   have hws : ws = #[] := by simpa using hn
   subst hws
   have hus : us = #[] := by simpa using hu
   subst hus
   obtain ⟨hlen, hall⟩ := ha
   cases vs with
   | nil => simp at hlen
   | cons x vs =>
     have hx := hall 0 (by simp)
     simp only [List.getD_cons_zero] at hx
     cases hx with
     | @iface _ _ cv hcv =>
       obtain ⟨nx, e1, e2⟩ := h S (.func (.func f) #[] #[]) (cv :: vs) hH (.func rfl rfl (fun k hk => absurd hk (by simp)) (fun k hk => absurd hk (by simp)))
        ⟨by simpa using hlen, fun k hk => by
         cases k with
         | zero => exact hcv
         | succ k => simpa using hall (k+1) (by simpa using hk)⟩
       refine ⟨nx, ?_, e2⟩
       rw [← e1]
       simp only [Deferred.ofValue, Sem.run_bind, Sem.run_pure, Result.andThen_ok, invoke]
       have a1 : (#[] ++ (Value.iface T cv :: vs).toArray : Array Value)[0]? = some (.iface T cv) := by simp
       have a2 : (#[] ++ (Value.iface T cv :: vs).toArray : Array Value).extract 1 (#[] ++ (Value.iface T cv :: vs).toArray : Array Value).size = vs.toArray := by
        apply Array.toList_inj.1; simp
       simp only [a1, a2, hm cv vs.toArray S.w]
       congr 2
       simp
end Go.V
end
section
set_option linter.unusedVariables false
namespace Go.V
set_option linter.unusedSectionVars false
variable [Inhabited GivT]
theorem frz_stepB {S : St} {H : Hp} {id st n : Nat} {f : Nat → List AV} (hH : HRel S H) (ho : H id = some (.box st n f)) :
  ∃ S2, S2.w = S.w ∧ Le S S2 ∧ HRel S2 (H.del id) ∧ ∀ i j v, VRel S (.ref id 0 st i j) v → VRel S2 (.rptr n st f i j) v := by
 obtain ⟨b, c, e, hl, hb, hni, hc⟩ := hH.obj id _ ho
 have hle := S.frz_le b
 refine ⟨S.frz b, rfl, hle, ?_, ?_⟩
 ·refine ⟨fun i hi => ⟨?_, (hH.fresh i hi).2⟩, ?_, ?_, ?_, fun p hp => (hH.giv p hp).mono hle⟩
  ·simp only [Hp.del]; split
   ·rfl
   ·exact (hH.fresh i hi).1
  ·rintro x (hx | rfl)
   ·exact hH.immlt x hx
   ·exact (Array.getElem?_eq_some_iff.1 hb).1
  ·intro i o hi
   have ne : i ≠ id := by intro e; simp [Hp.del, e] at hi
   rw [Hp.del_ne _ ne] at hi
   have old := hH.obj i o hi
   have hne : ∀ x, S.loc i o.gen = .blk x → x ≠ b := fun x hx e => ne (hH.inj i id o _ x hi ho hx (by subst e; exact hl))
   cases o with
   | box st' n' f' =>
     obtain ⟨b', c', e', h1, h2, h3, h4⟩ := old
     exact ⟨b', c', e', h1, h2, fun hx => hx.elim h3 (hne b' h1), h4.1, h4.2.1, fun i j hi hj => (h4.2.2 i j hi hj).mono hle⟩
   | row st' n' f' =>
     obtain ⟨g1, old⟩ := old
     refine ⟨g1, old.imp (fun x => x) ?_⟩
     rintro ⟨b', c', e', h1, h2, h3, h4⟩
     exact ⟨b', c', e', h1, h2, fun hx => hx.elim h3 (hne b' h1), h4.1, h4.2.1, fun i j hi hj => (h4.2.2 i j hi hj).mono hle⟩
   | memo F =>
     obtain ⟨b', es, k, h1, h2, h3, h4⟩ := old
     exact ⟨b', es, k, h1, h2, fun hx => hx.elim h3 (hne b' h1), h4⟩
   | raw o =>
     obtain ⟨b', h1, h2, h3, h4⟩ := old
     exact ⟨b', h1, h2, h3, fun hx => hx.elim h4 (hne b' h1)⟩
   | iter mid since seen c0 =>
     obtain ⟨r', b', h1, h2, h3, h4⟩ := old
     exact ⟨r', b', h1, h2, h3, fun hx => hx.elim h4 (hne r' h1)⟩
   | loop l n s ps assign body st pend did =>
     obtain ⟨h1, h2, fn, tmps, D, h3, h4, h5, h6⟩ := old
     exact ⟨h1, fun hx => hx.elim h2 (hne l h1), fn, tmps, D, h3, h4, h5.mono hle, h6⟩
  ·intro i j o o' x hi hj
   have ne : i ≠ id := by intro e; simp [Hp.del, e] at hi
   have ne' : j ≠ id := by intro e; simp [Hp.del, e] at hj
   rw [Hp.del_ne _ ne] at hi
   rw [Hp.del_ne _ ne'] at hj
   exact hH.inj i j o o' x hi hj
 ·intro i j v this
  cases this with
  | ref hl' =>
    rw [hl] at hl'; cases hl'
    have := VRel.rptr (S := S.frz b) (i := i) (j := j) (off := 0) (.inr rfl) hb (by rw [Nat.zero_add]; exact hc.1) hc.2.1 (fun i j hi hj => by rw [Nat.zero_add]; exact (hc.2.2 i j hi hj).mono hle)
    rw [Nat.zero_add] at this
    exact this

/-- The box becomes its data in every slot that points to it. -/
theorem Ent.freezeB {s s' : Fr} {ds : List AD} {H : Hp} {K : Fr → List AD → Hp → Prop} {id st n : Nat} {f : Nat → List AV} (ho : H id = some (.box st n f))
  (hs : ∀ t, s' t = s t ∨ ∃ i j, s t = .ref id 0 st i j ∧ s' t = .rptr n st f i j) (h : K s' ds (H.del id)) : Ent s ds H K := by
 intro S a hH hF hD
 obtain ⟨S2, hw, hle, h2, hc⟩ := frz_stepB hH ho
 refine ⟨S2, s', ds, H.del id, hw, hle, h2, fun t => ?_, hD.mono hle, h⟩
 rcases hs t with e | ⟨i, j, e1, e2⟩
 ·rw [e]; exact (hF t).mono hle
 ·rw [e2]
  have := hF t
  rw [e1] at this
  exact hc _ _ _ this

/-- A rule for a smaller heap holds for the larger one. -/
theorem Tri.less {P : Program} {fv : AV} {args : List AV} {H H' : Hp} {R : Res → Hp → Prop} (hs : HSub H H') (h : Tri P fv args H' R) : Tri P fv args H R :=
 fun S vf vs hH => h S vf vs (hH.sub hs)
end Go.V
end
section
namespace Go.V
set_option linter.unusedSectionVars false
variable [Inhabited GivT]
variable {α : Type}
/-- What is told of two, where either may be missing. -/
def comb (join : α → α → α) : Option α → Option α → Option α
 | none, y => y
 | some a, none => some a
 | some a, some b => some (join a b)
/-- Of all of a list. -/
def foldJ (join : α → α → α) : List α → Option α
 | [] => none
 | a :: l => comb join (some a) (foldJ join l)
end Go.V
end
section
set_option linter.unusedVariables false
set_option linter.unusedSimpArgs false
namespace Go.V
set_option linter.unusedSectionVars false
/-- The first set of a size, from one on, that suits. -/
def inn (f : Nat → Bool) (z : Nat) : Nat → Nat → Option Nat
 | 0, _ => none
 | n + 1, j => if (decide (pop j = z) && f j) = true then some j else inn f z n (j + 1)
def outF (f : Nat → Bool) (m : Nat) : Nat → Nat → Option Nat
 | 0, _ => none
 | n + 1, z => match inn f z (2 ^ m) 0 with
   | some j => some j
   | none => outF f m n (z + 1)
def fewV (f : Nat → Bool) (m : Nat) : Option Nat := outF f m (m + 1) 0
/-- The last of all sets that are smaller than those before. -/
def bsN (f : Nat → Bool) (b : Nat) : Nat → Nat
 | 0 => b
 | j + 1 => if (decide (pop j < pop (bsN f b j)) && f j) = true then j else bsN f b j
def rset (f : Nat → Bool) (m : Nat) : Option Nat := if f (2 ^ m - 1) = true then some (bsN f (2 ^ m - 1) (2 ^ m)) else none
def setE (e : Int) (r : Option Nat) : Int := if e = 0 then (if r.isSome = true then 0 else 4) else e
def setV (e : Int) (r : Option Nat) : Nat := if setE e r = 0 then r.getD 0 else 0
/-- The least set that suits. -/
structure LeastSet (f : Nat → Bool) (m r : Nat) : Prop where
 lt : r < 2 ^ m
 is : f r = true
 le : ∀ i, i < 2 ^ m → f i = true → pop r < pop i ∨ pop r = pop i ∧ r ≤ i
theorem LeastSet.uniq {f : Nat → Bool} {m r r' : Nat} (h : LeastSet f m r) (h' : LeastSet f m r') : r = r' := by
 have h1 := h.le r' h'.lt h'.is
 have h2 := h'.le r h.lt h.is
 omega
section
variable [Inhabited GivT]
noncomputable def cdec (p : Prop) : Bool := @decide p (Classical.propDecidable p)
noncomputable def filP {α : Type} (p : α → Prop) (l : List α) : List α := l.filter fun a => cdec (p a)
/-- The least number with a property, if there is one. -/
structure MinS (o : Option Int) (S : Int → Prop) : Prop where
 le : ∀ x, S x → ∃ m, o = some m ∧ m ≤ x
 is : ∀ m, o = some m → S m
theorem MinS.uniq {o o' : Option Int} {S : Int → Prop} (h : MinS o S) (h' : MinS o' S) : o = o' := by
 cases ho : o with
 | none =>
   cases ho' : o' with
   | none => rfl
   | some m =>
     obtain ⟨q, hq, _⟩ := h.le m (h'.is m ho')
     rw [ho] at hq; cases hq
 | some m =>
   obtain ⟨q, hq, h1⟩ := h'.le m (h.is m ho)
   obtain ⟨q2, hq2, h2⟩ := h.le q (h'.is q hq)
   rw [ho] at hq2
   cases hq2
   rw [hq]
   congr 1
   omega
theorem MinS.congr {o : Option Int} {S S' : Int → Prop} (h : MinS o S) (e : ∀ x, S x ↔ S' x) : MinS o S' :=
 ⟨fun x hx => h.le x ((e x).2 hx), fun m hm => (e m).1 (h.is m hm)⟩
def mnG {α : Type} (f : α → Int) (L : List α) (d : α) : Nat → α
 | 0 => L.getD 0 d
 | i + 1 => if f (L.getD i d) < f (mnG f L d i) then L.getD i d else mnG f L d i
end
end Go.V
end
section
set_option linter.unusedVariables false
set_option linter.unusedSimpArgs false
namespace Go.Proofs.YtclkjifgipcamaaGreat
open Go.V
/-- A sum of the first so many. -/
def smZ (f : Nat → Int) : Nat → Int
 | 0 => 0
 | n + 1 => smZ f n + f n
theorem smZ_le {f g : Nat → Int} : ∀ n, (∀ i, i < n → f i ≤ g i) → smZ f n ≤ smZ g n
 | 0, _ => Int.le_refl _
 | n + 1, h => by
   have := smZ_le n fun i hi => h i (by omega)
   have := h n (by omega)
   simp only [smZ]; omega
theorem smZ_congr {f g : Nat → Int} (n : Nat) (h : ∀ i, i < n → f i = g i) : smZ f n = smZ g n :=
 Int.le_antisymm (smZ_le n fun i hi => by rw [h i hi]; exact Int.le_refl _) (smZ_le n fun i hi => by rw [h i hi]; exact Int.le_refl _)
theorem smZ_add (f g : Nat → Int) : ∀ n, smZ (fun i => f i + g i) n = smZ f n + smZ g n
 | 0 => rfl
 | n + 1 => by simp only [smZ, smZ_add f g n]; omega
theorem smZ_mul (k : Int) (f : Nat → Int) : ∀ n, smZ (fun i => k * f i) n = k * smZ f n
 | 0 => by simp [smZ]
 | n + 1 => by simp only [smZ, smZ_mul k f n, Int.mul_add]
theorem smZ_one (f : Nat → Int) (i : Nat) : ∀ n, smZ (fun j => if j = i then f j else 0) n = if i < n then f i else 0
 | 0 => rfl
 | n + 1 => by
   simp only [smZ, smZ_one f i n]
   by_cases h : n = i
   ·subst h; rw [if_pos rfl, if_neg (Nat.lt_irrefl _), if_pos (by omega)]; omega
   ·rw [if_neg h]
    by_cases h2 : i < n
    ·rw [if_pos h2, if_pos (by omega)]; omega
    ·rw [if_neg h2, if_neg (by omega)]; omega
theorem smZ_nonneg {f : Nat → Int} (n : Nat) (h : ∀ i, i < n → 0 ≤ f i) : 0 ≤ smZ f n := by
 have := smZ_le (f := fun _ => 0) n h
 have e : smZ (fun _ => 0) n = 0 := by
  induction n with
  | zero => rfl
  | succ n ih => simp only [smZ]; rw [ih (fun i hi => h i (by omega)) (smZ_le n fun i hi => h i (by omega))]; rfl
 omega
/-- Seams, how many blows each opens at, and how often each has another one beside it. -/
structure Dv where
 n : Nat
 lim : Nat → Int
 cnt : Nat → Nat → Int
structure Dv.Ok (d : Dv) : Prop where
 c0 : ∀ i j, 0 ≤ d.cnt i j
 self : ∀ i, d.cnt i i = 0
 less : ∀ i, i < d.n → smZ (d.cnt i) d.n + 1 ≤ d.lim i
/-- What is left if each seam has opened so often. -/
def Dv.res (d : Dv) (b u : Nat → Int) (j : Nat) : Int := b j - u j * d.lim j + smZ (fun i => u i * d.cnt i j) d.n
/-- So many more on one seam. -/
def upZ (u : Nat → Int) (i : Nat) (k : Int) : Nat → Int := fun j => if j = i then u j + k else u j
def Dv.fire (d : Dv) (b : Nat → Int) (i : Nat) (k : Int) : Nat → Int := fun j => (if j = i then b j - k * d.lim j else b j) + k * d.cnt i j
theorem Dv.res_zero (d : Dv) (b : Nat → Int) : d.res b (fun _ => 0) = b := by
 funext j
 have : smZ (fun i => (0 : Int) * d.cnt i j) d.n = 0 := by
  rw [smZ_mul]; exact Int.zero_mul _
 show b j - 0 * d.lim j + smZ (fun i => (0 : Int) * d.cnt i j) d.n = b j
 rw [this, Int.zero_mul]
 omega
theorem Dv.res_up (d : Dv) (b u : Nat → Int) {i : Nat} (hi : i < d.n) (k : Int) : d.res b (upZ u i k) = d.fire (d.res b u) i k := by
 funext j
 have h1 : smZ (fun q => upZ u i k q * d.cnt q j) d.n = smZ (fun q => u q * d.cnt q j) d.n + k * d.cnt i j := by
  have e : ∀ q, upZ u i k q * d.cnt q j = u q * d.cnt q j + (if q = i then k * d.cnt q j else 0) := fun q => by
   unfold upZ
   split
   ·rw [Int.add_mul]
   ·omega
  rw [smZ_congr d.n fun q _ => e q, smZ_add, smZ_one (fun q => k * d.cnt q j), if_pos hi]
 dsimp only [Dv.res, Dv.fire]
 rw [h1]
 dsimp only [upZ]
 by_cases h : j = i
 ·subst h
  rw [if_pos rfl, if_pos rfl, Int.add_mul]; omega
 ·rw [if_neg h, if_neg h]; omega
/-- Seams that open, one after another, each when it can. -/
inductive Dv.Run (d : Dv) (b : Nat → Int) : (Nat → Int) → Prop
 | start : Dv.Run d b fun _ => 0
 | step {u : Nat → Int} {i : Nat} (h : Dv.Run d b u) (hi : i < d.n) (hl : d.lim i ≤ d.res b u i) : Dv.Run d b (upZ u i 1)
def Dv.Still (d : Dv) (b u : Nat → Int) : Prop := ∀ i, i < d.n → d.res b u i < d.lim i
theorem Dv.Run.nonneg {d : Dv} {b u : Nat → Int} (h : d.Run b u) : ∀ i, 0 ≤ u i := by
 induction h with
 | start => exact fun _ => Int.le_refl _
 | step h hi hl ih =>
   intro j
   have := ih j
   unfold upZ
   split <;> omega
theorem Dv.Run.out {d : Dv} {b u : Nat → Int} (h : d.Run b u) : ∀ i, d.n ≤ i → u i = 0 := by
 induction h with
 | start => exact fun _ _ => rfl
 | @step u i h hi hl ih =>
   intro j hj
   unfold upZ
   rw [if_neg (by omega)]
   exact ih j hj
/-- No seam opens more often than in any way that ends at rest. -/
theorem Dv.least {d : Dv} (ok : d.Ok) {b u v : Nat → Int} (h : d.Run b u) (hv : d.Still b v) (h0 : ∀ i, 0 ≤ v i) : ∀ i, i < d.n → u i ≤ v i := by
 induction h with
 | start => exact fun i _ => h0 i
 | @step u i h hi hl ih =>
   intro j hj
   unfold upZ
   by_cases e : j = i
   ·subst e
    rw [if_pos rfl]
    have h1 := ih j hj
    rcases Int.lt_or_le (u j) (v j) with q | q
    ·omega
    ·have e2 : u j = v j := by omega
     have h2 := hv j hj
     have h3 : smZ (fun i => u i * d.cnt i j) d.n ≤ smZ (fun i => v i * d.cnt i j) d.n := smZ_le d.n fun q hq => Int.mul_le_mul_of_nonneg_right (ih q hq) (ok.c0 q j)
     unfold Dv.res at hl h2
     rw [e2] at hl
     omega
   ·rw [if_neg e]; exact ih j hj
theorem Dv.uniq {d : Dv} (ok : d.Ok) {b u v : Nat → Int} (h1 : d.Run b u) (s1 : d.Still b u) (h2 : d.Run b v) (s2 : d.Still b v) : ∀ i, u i = v i := fun i => by
 by_cases hi : i < d.n
 ·have a := Dv.least ok h1 s2 h2.nonneg i hi
  have c := Dv.least ok h2 s1 h1.nonneg i hi
  omega
 ·rw [h1.out i (by omega), h2.out i (by omega)]
/-- A seam opens as often as it can at a time. -/
theorem Dv.Run.many {d : Dv} (ok : d.Ok) {b u : Nat → Int} (h : d.Run b u) {i : Nat} (hi : i < d.n) : ∀ k : Nat, (k : Int) * d.lim i ≤ d.res b u i → d.Run b (upZ u i k)
 | 0, _ => by
   have : upZ u i ((0 : Nat) : Int) = u := by
    funext j; unfold upZ
    split <;> simp
   rw [this]; exact h
 | k + 1, hk => by
   have hl := ok.less i hi
   have hn := smZ_nonneg d.n fun j _ => ok.c0 i j
   have e1 : ((k + 1 : Nat) : Int) * d.lim i = (k : Int) * d.lim i + d.lim i := by rw [Int.natCast_add, Int.add_mul]; simp
   have ih := Dv.Run.many ok h hi k (by omega)
   have e2 : d.res b (upZ u i (k : Int)) i = d.res b u i - (k : Int) * d.lim i := by
    rw [Dv.res_up d b u hi]
    unfold Dv.fire
    rw [if_pos rfl, ok.self i]
    simp
   have h2 := Dv.Run.step ih hi (by rw [e2]; omega)
   have e3 : upZ (upZ u i (k : Int)) i 1 = upZ u i ((k + 1 : Nat) : Int) := by
    funext j; unfold upZ
    split
    ·rename_i e; rw [Int.natCast_add]; omega
    ·rfl
   rw [e3] at h2
   exact h2
/-- What opens with more blows begins with what opens with fewer. -/
theorem Dv.Run.more {d : Dv} {b b' u : Nat → Int} (hb : ∀ i, b i ≤ b' i) (h : d.Run b u) : d.Run b' u := by
 induction h with
 | start => exact .start
 | @step u i h hi hl ih =>
   refine .step ih hi ?_
   have := hb i
   unfold Dv.res at hl ⊢
   omega
theorem Dv.res_add (d : Dv) (b u w : Nat → Int) : d.res (d.res b u) w = d.res b (fun i => u i + w i) := by
 funext j
 have : smZ (fun i => (u i + w i) * d.cnt i j) d.n = smZ (fun i => u i * d.cnt i j) d.n + smZ (fun i => w i * d.cnt i j) d.n := by
  rw [← smZ_add]
  exact smZ_congr d.n fun i _ => Int.add_mul _ _ _
 unfold Dv.res
 rw [this, Int.add_mul]
 omega
theorem Dv.Run.join {d : Dv} {b u w : Nat → Int} (h : d.Run b u) (h2 : d.Run (d.res b u) w) : d.Run b (fun i => u i + w i) := by
 induction h2 with
 | start =>
   have : (fun i => u i + (0 : Int)) = u := by funext i; omega
   rw [this]; exact h
 | @step w i h2 hi hl ih =>
   rw [Dv.res_add] at hl
   have h3 := Dv.Run.step ih hi hl
   have : upZ (fun i => u i + w i) i 1 = fun j => u j + upZ w i 1 j := by
    funext j; dsimp only [upZ]
    split <;> omega
   rw [this] at h3
   exact h3
/-- One blow more: what opens then is what opened, and what this blow opens. -/
theorem Dv.chain {d : Dv} (ok : d.Ok) {b u w v : Nat → Int} {s : Nat} (h1 : d.Run b u) (h2 : d.Run (upZ (d.res b u) s 1) w) (s2 : d.Still (upZ (d.res b u) s 1) w) (h3 : d.Run (upZ b s 1) v) (s3 : d.Still (upZ b s 1) v) :
  ∀ i, v i = u i + w i := by
 have e : d.res (upZ b s 1) u = upZ (d.res b u) s 1 := by
  funext j
  dsimp only [Dv.res, upZ]
  split <;> omega
 have hm : d.Run (upZ b s 1) u := h1.more fun i => by unfold upZ; split <;> omega
 rw [← e] at h2 s2
 have hj := hm.join h2
 refine Dv.uniq ok h3 s3 hj fun i hi => ?_
 rw [← Dv.res_add]
 exact s2 i hi
def Dv.tot (d : Dv) (b : Nat → Int) : Int := smZ b d.n
theorem Dv.fire_tot {d : Dv} (ok : d.Ok) (b : Nat → Int) {i : Nat} (hi : i < d.n) {k : Int} (hk : 0 ≤ k) : d.tot (d.fire b i k) + k ≤ d.tot b := by
 have e : smZ (d.fire b i k) d.n = smZ b d.n + (smZ (fun j => if j = i then -(k * d.lim j) else 0) d.n + k * smZ (d.cnt i) d.n) := by
  rw [← smZ_mul, ← smZ_add, ← smZ_add]
  refine smZ_congr d.n fun j _ => ?_
  unfold Dv.fire
  split <;> omega
 rw [smZ_one (fun j => -(k * d.lim j)), if_pos hi] at e
 have h := Int.mul_le_mul_of_nonneg_left (ok.less i hi) hk
 rw [Int.mul_add, Int.mul_one] at h
 unfold Dv.tot
 omega
theorem Dv.fire_nonneg {d : Dv} (ok : d.Ok) {b : Nat → Int} {i : Nat} {k : Int} (hk : 0 ≤ k) (hb : ∀ j, j < d.n → 0 ≤ b j) (hl : k * d.lim i ≤ b i) : ∀ j, j < d.n → 0 ≤ d.fire b i k j := fun j hj => by
 have h1 := hb j hj
 have h2 := Int.mul_nonneg hk (ok.c0 i j)
 unfold Dv.fire
 split
 ·rename_i e; subst e; omega
 ·omega
end Go.Proofs.YtclkjifgipcamaaGreat
end
section
set_option linter.unusedVariables false
set_option linter.unusedSimpArgs false
namespace Go.V
set_option linter.unusedSectionVars false
variable [Inhabited GivT]
theorem tri_bound {P : Program} {f : FuncId} {recv : AV} {args : List AV} {H : Hp} {R : Res → Hp → Prop} (h : Tri P (fnA f) (recv :: args) H R) :
  Tri P (.func (.func f) [recv] []) args H R := by
 intro S vf vs hH hvf ha
 cases hvf with
 | @func _ _ _ ws us hn hu h1 h2 =>
   have hw : ∃ x, ws = #[x] := by
    have : ws.size = 1 := by simpa using hn
    exact ⟨ws[0], Array.ext (by simp [this]) (fun i h1 h2 => by
     have : i = 0 := by simp at h2; omega
     subst this; rfl)⟩
   obtain ⟨x, rfl⟩ := hw
   have hus : us = #[] := by simpa using hu
   subst hus
   have hx := h1 0 (by simp)
   simp only [List.getD_cons_zero] at hx
   have hx' : VRel S recv x := by simpa [Array.getD_eq_getD_getElem?] using hx
   obtain ⟨nx, e1, e2⟩ := h S (.func (.func f) #[] #[]) (x :: vs) hH (.func rfl rfl (fun k hk => absurd hk (by simp)) (fun k hk => absurd hk (by simp)))
     ⟨by simp [ha.1], fun k hk => by
      cases k with
      | zero => exact hx'
      | succ k => simpa using ha.2 k (by simpa using hk)⟩
   refine ⟨nx, ?_, e2⟩
   rw [← e1]
   simp only [Deferred.ofValue, Sem.run_bind, Sem.run_pure, Result.andThen_ok, invoke]
   simp
end Go.V
end
section
set_option linter.unusedVariables false
set_option linter.unusedSimpArgs false
namespace Go.V
set_option linter.unusedSectionVars false
variable [Inhabited GivT]
theorem mapM_all {α β : Type} {f : α → Option β} {g : α → β} : ∀ {l : List α}, (∀ a ∈ l, f a = some (g a)) → l.mapM f = some (l.map g)
 | [], _ => rfl
 | a :: l, h => by
   rw [List.mapM_cons, h a (by simp), mapM_all (fun b hb => h b (by simp [hb]))]; rfl

def keyJ (P : Program) : Nat → TypeId → Option Nat
 | 0, _ => none
 | d + 1, T => match P.underlying T with
   | some (.int .i64) => if P.cellsOf T = 1 then some 1 else none
   | some (.array n e) => match d, P.underlying e with
     | _ + 1, some (.int .i64) => if P.cellsOf e = 1 ∧ P.cellsOf T = n then some n else none
     | _, _ => none
   | some (.struct fs) => match keyFs P (keyJ P d) fs.toList 0 with
     | some n => if P.cellsOf T = n then some n else none
     | none => none
   | _ => none

theorem keyJ_spec {P : Program} : ∀ (d : Nat) (T n : Nat), keyJ P d T = some n → P.cellsOf T = n ∧
  ∀ D, d ≤ D → ∀ l : List Int, l.length = n → (∀ x ∈ l, (Lit.int .i64 x).wf = true) → P.keyLits D T (l.map (Value.int .i64)) = some (l.map (Lit.int .i64))
 | 0, _, _, h => by simp [keyJ] at h
 | d + 1, T, n, h => by
   simp only [keyJ] at h
   split at h
   case h_4 => cases h
   case h_1 hu =>
    split at h
    case isFalse => cases h
    case isTrue hc =>
     cases h
     refine ⟨hc, fun D hD l hl hw => ?_⟩
     obtain ⟨D', rfl⟩ : ∃ D', D = D' + 1 := ⟨D - 1, by omega⟩
     match l, hl with
     | [a], _ =>
       have := hw a (by simp)
       simp [Program.keyLits, hu, this]
   case h_2 m e hu =>
    split at h
    case h_2 => cases h
    case h_1 hd he =>
     split at h
     case isFalse => cases h
     case isTrue hc =>
      cases h
      refine ⟨hc.2, fun D hD l hl hw => ?_⟩
      obtain ⟨D', rfl⟩ : ∃ D', D = D' + 2 := ⟨D - 2, by omega⟩
      subst hl
      have key : ∀ i ∈ List.range l.length, P.keyLits (D' + 1) e (((l.map (Value.int .i64)).drop (i * P.cellsOf e)).take (P.cellsOf e)) = some [Lit.int .i64 (l.getD i 0)] := fun i hi => by
       rw [List.mem_range] at hi
       have e1 : ((l.map (Value.int .i64)).drop (i * P.cellsOf e)).take (P.cellsOf e) = [Value.int .i64 (l.getD i 0)] := by
        rw [hc.1, Nat.mul_one, List.drop_eq_getElem_cons (by simpa using hi)]
        simp [List.getD, hi]
       have hm : l.getD i 0 ∈ l := by simp [List.getD, hi]
       rw [e1]
       have hw2 := hw _ hm
       unfold Program.keyLits
       simp only [he, hw2, and_self, if_true]
      rw [Program.keyLits]
      rotate_left 3
      ·exact hu
      simp only [List.length_map, hc.2, if_true]
      rw [mapM_all key, Option.map_some]
      congr 1
      have : ∀ l : List Int, ((List.range l.length).map fun i => [Lit.int .i64 (l.getD i 0)]).flatten = l.map (Lit.int .i64) := fun l => by
       rw [← List.flatMap_def]
       apply List.ext_getElem?
       intro j
       induction l generalizing j with
       | nil => simp
       | cons a l ih =>
         rw [List.length_cons, List.range_succ_eq_map, List.flatMap_cons, List.flatMap_map]
         cases j with
         | zero => simp
         | succ j => simpa using ih j
      exact this l
   case h_3 fs hu =>
    split at h
    case h_2 => cases h
    case h_1 n' hk =>
     split at h
     case isFalse => cases h
     case isTrue hc =>
      cases h
      refine ⟨hc, fun D hD l hl hw => ?_⟩
      obtain ⟨D', rfl⟩ : ∃ D', D = D' + 1 := ⟨D - 1, by omega⟩
      subst hl
      obtain ⟨hn, Ls, hm, hfl⟩ := keyFs_spec (P := P) (D := D') (g := keyJ P d) (l := l) (fun T n hT => by
       obtain ⟨g1, g2⟩ := keyJ_spec d T n hT
       refine ⟨g1, fun o ho => ?_⟩
       have := g2 D' (by omega) ((l.drop o).take n) (by simp; omega) (fun x hx => hw x (List.mem_of_mem_drop (List.mem_of_mem_take hx)))
       rw [← this, List.map_take, List.map_drop]) fs.toList 0 hk (by omega)
      have hall : fs.all (fun f => f.name != "_") = true := by
       rw [Array.all_eq_true_iff_forall_mem]
       intro f hf
       have := hn f (by simpa using hf)
       simpa using this
      simp only [Program.keyLits, hu, List.length_map, hc, hall, true_and, if_true, hm, Option.map_some, hfl, List.drop_zero]

theorem keyOf_intsJ {P : Program} {k d n : Nat} (hi : keyJ P d k = some n) (hd : d ≤ P.types.size + 1) (hk : P.keyType k = true) (hs : (match P.underlying k with | some (.array _ _) | some (.struct _) => true | _ => false) = true)
  {l : List Int} (hl : l.length = n) (hf : (Value.agg (l.map (Value.int .i64)).toArray).formed P k = true) (hw : ∀ x ∈ l, (Lit.int .i64 x).wf = true) : ∃ s, keyOf P k (.agg (l.map (Value.int .i64)).toArray) = some s := by
 obtain ⟨_, h2⟩ := keyJ_spec d k n hi
 have := h2 (P.types.size + 1) hd l hl hw
 unfold keyOf
 split at hs
 ·rename_i e; rw [e]; simp only [hk, hf, Bool.and_self, if_true, Value.cells, List.toList_toArray, this]; exact ⟨_, rfl⟩
 ·rename_i e; rw [e]; simp only [hk, hf, Bool.and_self, if_true, Value.cells, List.toList_toArray, this]; exact ⟨_, rfl⟩
 ·cases hs
end Go.V
end
section
set_option linter.unusedVariables false
set_option linter.unusedSimpArgs false
namespace Go.V
set_option linter.unusedSectionVars false
variable [Inhabited GivT]
/-- The same value, with some leaves told otherwise. -/
inductive FrzX (L : AV → AV → Prop) : AV → AV → Prop
 | same (x : AV) : FrzX L x x
 | leaf {x y : AV} (h : L x y) : FrzX L x y
 | agg {cs cs' : List AV} (hl : cs'.length = cs.length) (h : ∀ k, k < cs.length → FrzX L (cs.getD k .any) (cs'.getD k .any)) : FrzX L (.agg cs) (.agg cs')
 | tuple {cs cs' : List AV} (hl : cs'.length = cs.length) (h : ∀ k, k < cs.length → FrzX L (cs.getD k .any) (cs'.getD k .any)) : FrzX L (.tuple cs) (.tuple cs')
 | rptr {n st i j : Nat} {f g : Nat → List AV} (hl : ∀ k, k < n → (f k).length = st → (g k).length = st) (h : ∀ k l, k < n → l < st → FrzX L ((f k).getD l .any) ((g k).getD l .any)) : FrzX L (.rptr n st f i j) (.rptr n st g i j)
 | func {fn : Fn} {a b a' b' : List AV} (hl : a'.length = a.length) (hm : b'.length = b.length) (h : ∀ k, k < a.length → FrzX L (a.getD k .any) (a'.getD k .any)) (h' : ∀ k, k < b.length → FrzX L (b.getD k .any) (b'.getD k .any)) : FrzX L (.func fn a b) (.func fn a' b')

theorem FrzX.conv {L : AV → AV → Prop} {S S2 : St} (hle : Le S S2) (hc : ∀ x y, L x y → ∀ v, VRel S x v → VRel S2 y v) {x y : AV} (hxy : FrzX L x y) : ∀ v, VRel S x v → VRel S2 y v := by
 induction hxy with
 | same x => intro v hv; exact hv.mono hle
 | leaf h => intro v hv; exact hc _ _ h v hv
 | agg hl h ih =>
   intro v hv
   cases hv with
   | agg hn hv => exact .agg (hn.trans hl.symm) fun k hk => ih k (by omega) _ (hv k (by omega))
 | tuple hl h ih =>
   intro v hv
   cases hv with
   | tuple hn hv => exact .tuple (hn.trans hl.symm) fun k hk => ih k (by omega) _ (hv k (by omega))
 | @rptr n st i j f g hl h ih =>
   intro v hv
   cases hv with
   | rptr hi hb hsz hf hh =>
     exact .rptr (hle.imm _ hi) ((hle.keep _ hi).trans hb) hsz (fun k hk => hl k hk (hf k hk)) (fun k l hk hl2 => ih k l hk hl2 _ (hh k l hk hl2))
 | func hl hm h h' ih ih' =>
   intro v hv
   cases hv with
   | func hn hn' h1 h2 => exact .func (hn.trans hl.symm) (hn'.trans hm.symm) (fun k hk => ih k (by omega) _ (h1 k (by omega))) (fun k hk => ih' k (by omega) _ (h2 k (by omega)))

def Lb (id st n : Nat) (f : Nat → List AV) (x y : AV) : Prop := ∃ i j, x = .ref id 0 st i j ∧ y = .rptr n st f i j
def Lr (id st n : Nat) (f : Nat → List AV) (x y : AV) : Prop := x = .sl id st n ∧ ∃ g, (∀ i, i < n → f i = g i) ∧ y = .rsl n st g

/-- A box, or a row, that is handed back, to be written no more. -/
theorem Tri.thawX {P : Program} {fv : AV} {args : List AV} {H : Hp} {R1 R : Res → Hp → Prop} (h : Tri P fv args H R1)
  (hR : ∀ r H', R1 r H' → R r H' ∨ ∃ v v' id st n f, r = .ret v ∧ ((H' id = some (.box st n f) ∧ FrzX (Lb id st n f) v v') ∨ (H' id = some (.row st n f) ∧ FrzX (Lr id st n f) v v')) ∧ R (.ret v') (H'.del id)) : Tri P fv args H R := by
 intro S vf vs hH hvf ha
 obtain ⟨nx, h1, h2⟩ := h S vf vs hH hvf ha
 have ho : ∀ e w, Out S R1 e w → Out S R e w := by
  rintro e w ⟨S', r, H', hw, hle, hH', hres, hr⟩
  rcases hR r H' hr with hr | ⟨v, v', id, st, n, f, rfl, hob, hr⟩
  ·exact ⟨S', r, H', hw, hle, hH', hres, hr⟩
  ·cases e with
   | returned cv =>
     rcases hob with ⟨hob, hf⟩ | ⟨hob, hf⟩
     ·obtain ⟨S2, hw2, hle2, hH2, hc⟩ := frz_stepB hH' hob
      exact ⟨S2, .ret v', _, hw2.trans hw, hle.trans hle2, hH2, hf.conv hle2 (fun x y hxy v hv => by obtain ⟨i, j, rfl, rfl⟩ := hxy; exact hc _ _ _ hv) cv hres, hr⟩
     ·obtain ⟨S2, hw2, hle2, hH2, hc⟩ := frz_step hH' hob
      exact ⟨S2, .ret v', _, hw2.trans hw, hle.trans hle2, hH2, hf.conv hle2 (fun x y hxy v hv => by obtain ⟨rfl, g, hg, rfl⟩ := hxy; exact AV.Le.rsl hg _ _ (hc v hv)) cv hres, hr⟩
   | _ => exact hres.elim
 refine ⟨nx, h1, ?_⟩
 cases nx <;> simp only [NextOk] at h2 ⊢
 ·exact Calls.mono h2 ho
 ·exact h2.mono ho
end Go.V
end
section
set_option linter.unusedVariables false
set_option linter.unusedSimpArgs false
namespace Go.V
set_option linter.unusedSectionVars false
variable [Inhabited GivT]
theorem Ent.step {s : Fr} {ds : List AD} {H : Hp} {K : Fr → List AD → Hp → Prop} (h : Ent s ds H fun s ds H => Ent s ds H K) : Ent s ds H K := Ent.bind h fun _ _ _ h => h
theorem fn_ent {P : Program} {fn : Func} {R : Res → Hp → Prop} {s : Fr} {ds : List AD} {H : Hp} (h : Ent s ds H fun s ds H => FnPost P fn R .ret s ds H) : FnPost P fn R .ret s ds H := Ent.step h
end Go.V
end
section
set_option linter.unusedVariables false
namespace Go.V
set_option linter.unusedSectionVars false
variable [Inhabited GivT]
theorem Tri.args {P : Program} {fv : AV} {args args' : List AV} {H : Hp} {R : Res → Hp → Prop} (t : Tri P fv args' H R) (hl : args'.length = args.length) (h : ∀ k, k < args.length → AV.Le (args.getD k .any) (args'.getD k .any)) : Tri P fv args H R :=
 fun S vf vs hH hf ha => t S vf vs hH hf ⟨by rw [ha.1, hl], fun k hk => h k (by omega) S _ (ha.2 k (by omega))⟩
end Go.V
end
section
set_option linter.unusedVariables false
namespace Go.V
set_option linter.unusedSectionVars false
variable [Inhabited GivT]
/-- l is an order of all operations that are not in 'done', each behind what B puts ahead of it. -/
structure TopoB (ops : Array Oper) (B : Nat → Nat → Bool) (done : Nat → Prop) (l : List Nat) : Prop where
 lt : ∀ i ∈ l, i < ops.size
 nodup : l.Nodup
 apart : ∀ i ∈ l, ¬ done i
 all : ∀ i, i < ops.size → done i ∨ i ∈ l
 edges : ∀ l1 i l2, l = l1 ++ i :: l2 → ∀ k, B i k = true → done k ∨ k ∈ l1
theorem TopoB.tail {ops : Array Oper} {B : Nat → Nat → Bool} {done : Nat → Prop} {i : Nat} {l : List Nat} (h : TopoB ops B done (i :: l)) : TopoB ops B (fun j => done j ∨ j = i) l where
 lt := fun j hj => h.lt j (by simp [hj])
 nodup := (List.nodup_cons.1 h.nodup).2
 apart := fun j hj hd => by
  rcases hd with hd | rfl
  ·exact h.apart j (by simp [hj]) hd
  ·exact (List.nodup_cons.1 h.nodup).1 hj
 all := fun j hj => by
  rcases h.all j hj with hd | hm
  ·exact .inl (.inl hd)
  ·rcases List.mem_cons.1 hm with rfl | hm
   ·exact .inl (.inr rfl)
   ·exact .inr hm
 edges := fun l1 j l2 hl k hb => by
  rcases h.edges (i :: l1) j l2 (by rw [hl]; rfl) k hb with hd | hm
  ·exact .inl (.inl hd)
  ·rcases List.mem_cons.1 hm with hm | hm
   ·exact .inl (.inr hm)
   ·exact .inr hm
theorem TopoB.head {ops : Array Oper} {B : Nat → Nat → Bool} {done : Nat → Prop} {i k : Nat} {l : List Nat} (h : TopoB ops B done (i :: l)) (hb : B i k = true) : done k := by
 rcases h.edges [] i l rfl k hb with hd | hm
 ·exact hd
 ·simp at hm

structure Plan3 (ops : Array Oper) (B : Nat → Nat → Bool) (sg : Nat → Nat) (stages : List Stg) (last : List Nat) : Prop where
 ssa : ∀ i k, i < ops.size → k < ops.size → ∀ d, (opAt ops.toList k).dst = some d → (d ∈ readsOf ops.toList (opAt ops.toList i) → B i k = true ∨ (B k i = true ∧ sg k % 2 = 1)) ∧ (k ≠ i → (opAt ops.toList i).dst ≠ some d)
 st : ∀ j st kp e, stages[j]? = some (st, kp, e) → st = (List.range ops.size).filter (fun i => sg i == 2 * j) ∧ e < ops.size ∧ (∀ i, i < ops.size → (sg i = 2 * j + 1 ↔ i = e)) ∧
  (∀ i, i < ops.size → 2 * j + 2 ≤ sg i → B i e = true) ∧
  (∀ i, i < ops.size → sg i % 2 = 0 → sg i ≤ 2 * j → B e i = true ∨ heapFree (opAt ops.toList i).op = true ∨ i ∈ kp)
 last : last = (List.range ops.size).filter (fun i => sg i == 2 * stages.length)
 le : ∀ i, i < ops.size → sg i ≤ 2 * stages.length
 ord : ∀ i k, i < ops.size → k < ops.size → B i k = true → sg k ≤ sg i
 lt : ∀ i k, i < ops.size → k < ops.size → B i k = true → sg i = sg k → sg i % 2 = 0 → k < i

/-- What the quiet operations of a stage give. -/
theorem stage_facts3 {r : Option Nat} {P : Program} {n : Nat} {ops : Array Oper} {B : Nat → Nat → Bool} {sg : Nat → Nat} {stages : List Stg} {last : List Nat} (pl : Plan3 ops B sg stages last) {H : Hp} {c : Nat} {s : Fr} {K : Fr → Prop}
  (hev : c % 2 = 0) (h : vcQ P n ops.toList H (pickO ops.toList ((List.range ops.size).filter fun i => sg i == c)) s K) :
  ∃ sF, K sF ∧ (∀ t, (∀ i, i < ops.size → sg i = c → (opAt ops.toList i).dst ≠ some t) → sF t = s t) ∧ ∀ i, i < ops.size → sg i = c → QF r P n ops.toList H sF (opAt ops.toList i) := by
 have hpw : ((List.range ops.size).filter fun i => sg i == c).Pairwise (· < ·) := List.Pairwise.filter _ List.pairwise_lt_range
 have hmem : ∀ k, k ∈ ((List.range ops.size).filter fun i => sg i == c) ↔ k < ops.size ∧ sg k = c := fun k => by simp
 obtain ⟨sF, k1, k2, k3⟩ := vcQ_facts2 (r := r) (readsOf ops.toList) (fun _ => rfl) _ s K (by
  intro i o ho k o' hik ho' d hd
  obtain ⟨x, hx, rfl⟩ := pickO_get ho
  obtain ⟨y, hy, rfl⟩ := pickO_get ho'
  obtain ⟨hx1, hx2⟩ := (hmem x).1 (List.mem_of_getElem? hx)
  obtain ⟨hy1, hy2⟩ := (hmem y).1 (List.mem_of_getElem? hy)
  have hle : x ≤ y ∧ (i < k → x < y) := by
   obtain ⟨hil, hxe⟩ := List.getElem?_eq_some_iff.1 hx
   obtain ⟨hkl, hye⟩ := List.getElem?_eq_some_iff.1 hy
   have hlt : i < k → x < y := fun hlt => by
    have := List.pairwise_iff_getElem.1 hpw i k hil hkl hlt
    rw [hxe, hye] at this; exact this
   refine ⟨?_, hlt⟩
   rcases Nat.lt_or_ge i k with hl | hl
   ·have := hlt hl; omega
   ·have e : i = k := by omega
    subst e
    rw [hx] at hy; cases hy; exact Nat.le_refl _
  obtain ⟨g1, g2⟩ := pl.ssa x y hx1 hy1 d hd
  refine ⟨fun hm => ?_, fun hlt => g2 (by have := hle.2 hlt; omega)⟩
  rcases g1 hm with g1 | ⟨_, g1⟩
  ·have := pl.lt x y hx1 hy1 g1 (by omega) (by omega)
   omega
  ·omega) h
 refine ⟨sF, k1, fun t ht => k2 t fun o ho => ?_, fun i hi hs => k3 _ ?_⟩
 ·obtain ⟨k, hk, rfl⟩ := pickO_mem ho
  obtain ⟨a, b⟩ := (hmem k).1 hk
  exact ht k a b
 ·exact List.mem_map.2 ⟨i, (hmem i).2 ⟨hi, hs⟩, rfl⟩

theorem draw_run3 {r : Option Nat} {P : Program} {mm : Option Tmp → Bool} {n : Nat} {ops : Array Oper} {B : Nat → Nat → Bool} {Q : Post} {sg : Nat → Nat} {stages : List Stg} {last : List Nat} (pl : Plan3 ops B sg stages last)
  (hr : r = none ∨ ops.toList.all (fun o => quietOk o.op) = true) :
  ∀ (l : List Nat) (done : Nat → Prop) (j : Nat) (s : Fr) (ds : List AD) (H : Hp) (S : St) (a : Act), TopoB ops B done l →
    (∀ i, i < ops.size → done i → sg i ≤ 2 * j) → (∀ i, i < ops.size → sg i % 2 = 1 → sg i < 2 * j → done i) →
    (∀ i, i < ops.size → sg i % 2 = 0 → sg i ≤ 2 * j → ¬ done i → QF r P n ops.toList H s (opAt ops.toList i)) →
    vcD' P mm n ops.toList (preOf stages j) (stages.drop j) last s ds H Q →
    a.tmps.size = n → HRel S H → DRel S ds a.defers → PFrame2 S ops sg j done s a → wpOpsIn (FW r) 0 P ops (Lift S n Q) l a S.w := by
 intro l
 induction l with
 | nil =>
   intro done j s ds H S a ht I1 I2 hfact hv hsz hH hD hP
   have hall : ∀ i, i < ops.size → done i := fun i hi => (ht.all i hi).resolve_right (by simp)
   have hj : stages.length ≤ j := by
    rcases Nat.lt_or_ge j stages.length with hlt | hge
    ·rcases hx : stages[j] with ⟨st, kp, e⟩
     have hs : stages[j]? = some (st, kp, e) := by rw [List.getElem?_eq_getElem hlt, hx]
     obtain ⟨_, g2, g3, _⟩ := pl.st j st kp e hs
     have := I1 e g2 (hall e g2)
     have := (g3 e g2).2 rfl
     omega
    ·exact hge
   have hF : FRel S s a := fun t => by
    rcases hP t with ⟨k, hk, _, hnd, _⟩ | h
    ·exact absurd (hall k hk) hnd
    ·exact h
   rw [List.drop_eq_nil_of_le hj] at hv
   exact ⟨S, .normal, s, ds, H, rfl, Le.refl S, hH, hF, hD, hsz, trivial, hv⟩
 | cons i l ih =>
   intro done j s ds H S a ht I1 I2 hfact hv hsz hH hD hP
   have hi := ht.lt i (by simp)
   have hni : ¬ done i := ht.apart i (by simp)
   have ho := opAt_get hi
   have hread : ∀ t, t ∈ readsOf ops.toList (opAt ops.toList i) → VRel S (s t) (a.tmps.getD t undef) := by
    intro t htr
    rcases hP t with ⟨k, hk, hkq, hnd, hd⟩ | h
    ·rcases (pl.ssa i k hi hk t hd).1 htr with g | ⟨_, g⟩
     ·exact absurd (ht.head g) hnd
     ·omega
    ·exact h
   have hops : ∀ x ∈ (opAt ops.toList i).op.operands.toList, VRel S (opA s x) (a.eval x) := by
    intro x hx
    cases x with
    | tmp t => exact hread t (mem_reads_op hx)
    | const v => exact .lit v
    | global g => exact .any _
    | func f => exact .func rfl rfl (fun k hk => absurd hk (by simp)) (fun k hk => absurd hk (by simp))
   by_cases hev : sg i % 2 = 0
   ·-- a quiet operation
    have hle : sg i ≤ 2 * j := by
     apply Classical.byContradiction
     intro hgt
     have := pl.le i hi
     have hlt : j < stages.length := by omega
     rcases hx : stages[j] with ⟨st, kp, e⟩
     have hs : stages[j]? = some (st, kp, e) := by rw [List.getElem?_eq_getElem hlt, hx]
     obtain ⟨_, g2, g3, g4, _⟩ := pl.st j st kp e hs
     have hde := ht.head (g4 i hi (by omega))
     have := I1 e g2 hde
     have := (g3 e g2).2 rfl
     omega
    obtain ⟨hd, v, hv', hg⟩ := (hfact i hi hev hle hni).fact
    have ih' : ∀ (S' : St) (cv : Value), Le S S' → HRel S' H → VRel S' v cv → wpOpsIn (FW r) 0 P ops (Lift S n Q) l (a.put (opAt ops.toList i).dst cv) S'.w := by
     intro S' cv hle' hH' hvr
     refine lift_wpOpsIn hle' l _ _ (ih (fun j => done j ∨ j = i) j s ds H S' _ ht.tail ?_ (fun x hx ho hl => .inl (I2 x hx ho hl)) ?_ hv ?_ hH' ?_ ?_)
     ·rintro x hx (hd | rfl)
      ·exact I1 x hx hd
      ·exact hle
     ·intro x hx he hl hnd
      exact hfact x hx he hl fun h => hnd (.inl h)
     ·have := put_size (a := a) (d := (opAt ops.toList i).dst) (cv := cv) (df := a.defers)
      exact this.trans hsz
     ·have := put_defers (a := a) (d := (opAt ops.toList i).dst) (cv := cv) (df := a.defers)
      have e : (a.put (opAt ops.toList i).dst cv).defers = a.defers := this
      rw [e]; exact hD.mono hle'
     ·intro t
      by_cases hdt : (opAt ops.toList i).dst = some t
      ·right
       rw [hv' t hdt]
       have ht' : t < a.tmps.size := by rw [hsz]; rw [hdt] at hd; exact hd
       rw [hdt]
       have := put_getD_same (a := a) (t := t) (cv := cv) (df := a.defers) ht'
       rw [show (a.put (some t) cv).tmps.getD t undef = cv from this]
       exact hvr
      ·rcases hP t with ⟨k, hk, hkq, hnd, hd'⟩ | h
       ·left
        refine ⟨k, hk, hkq, ?_, hd'⟩
        rintro (hx | rfl)
        ·exact hnd hx
        ·exact hdt hd'
       ·right
        rw [put_getD' hdt]
        exact h.mono hle'
    simp only [wpOpsIn, ho]
    generalize opAt ops.toList i = o at *
    cases hgd : o.guard with
    | none =>
      rw [hgd] at hg
      simp only [Region.wanted, hgd, if_true]
      exact hg S a _ _ hH hops ih'
    | some jw =>
      obtain ⟨jj, w⟩ := jw
      rw [hgd] at hg
      obtain ⟨b, v0, hb, rfl, hex⟩ := hg
      have hwant : Region.wanted o (yielded ops a.tmps) = b := wanted_rel hgd (fun q d hq hd' => hread d (mem_reads_guard hgd hq hd')) hb
      rw [hwant]
      cases hwb : b with
      | false =>
        simp only [Bool.false_eq_true, if_false]
        exact ⟨fun _ _ => trivial, ih' S undef (Le.refl S) hH (.under (fun x => by rw [hwb] at x; cases x) fun _ => rfl)⟩
      | true =>
        simp only [if_true]
        exact hex hwb S a _ _ hH hops fun S' cv hle hH' hvr => ih' S' cv hle hH' (.under (fun _ => hvr) fun x => by rw [hwb] at x; cases x)
   ·-- an effect
    have hlow : 2 * j < sg i := by
     apply Classical.byContradiction
     intro h
     exact hni (I2 i hi (by omega) (by omega))
    have hlt : j < stages.length := by have := pl.le i hi; omega
    rcases hx : stages[j] with ⟨st, kp, e⟩
    have hs : stages[j]? = some (st, kp, e) := by rw [List.getElem?_eq_getElem hlt, hx]
    obtain ⟨_, g2, g3, g4, g5⟩ := pl.st j st kp e hs
    have hsi : sg i = 2 * j + 1 := by
     apply Classical.byContradiction
     intro h
     have hde := ht.head (g4 i hi (by omega))
     have := I1 e g2 hde
     have := (g3 e g2).2 rfl
     omega
    have hei : i = e := (g3 i hi).1 hsi
    subst hei
    have hdrop : stages.drop j = (st, kp, i) :: stages.drop (j + 1) := by
     rw [List.drop_eq_getElem_cons hlt, hx]
    rw [hdrop] at hv
    obtain ⟨hd, hgn, heff⟩ := hv
    have hq : r = none ∨ ∀ c, (opAt ops.toList i).op ≠ .defer c := hr.imp (fun x => x) fun hall c e => by
     have hm : opAt ops.toList i ∈ ops.toList := List.mem_of_getElem? (i := i) (by simpa using ho)
     have := List.all_eq_true.1 hall _ hm
     rw [e] at this; cases this
    have hnext : hdS (stages.drop (j + 1)) last = (List.range ops.size).filter fun x => sg x == 2 * (j + 1) := by
     rcases Nat.lt_or_ge (j + 1) stages.length with h1 | h1
     ·rcases hx' : stages[j + 1] with ⟨st', kp', e'⟩
      have hs' : stages[j + 1]? = some (st', kp', e') := by rw [List.getElem?_eq_getElem h1, hx']
      rw [List.drop_eq_getElem_cons h1, hx']
      exact (pl.st (j + 1) st' kp' e' hs').1
     ·rw [List.drop_eq_nil_of_le h1]
      have : j + 1 = stages.length := by omega
      rw [this]; exact pl.last
    simp only [wpOpsIn, ho]
    have hw : Region.wanted (opAt ops.toList i) (yielded ops a.tmps) = true := by simp [Region.wanted, hgn]
    rw [hw]
    simp only [if_true]
    refine effA_sound heff hq hH hops hD _ _ ?_ ?_
    ·rintro S' cv v ds' df H' hle hH' hv' hD' ⟨hkp, hk⟩
     rw [vcD_eq, hnext, ← preOf_succ hs] at hk
     obtain ⟨sF, k1, k2, k3⟩ := stage_facts3 (r := r) pl (by omega) hk
     have hkf := vcRs_fact (r := r) _ hkp
     refine lift_wpOpsIn hle l _ _ (ih (fun x => done x ∨ x = i) (j + 1) sF ds' H' S' _ ht.tail ?_ ?_ ?_ k1 (by rw [put_size]; exact hsz) hH' (by rw [put_defers]; exact hD') ?_)
     ·rintro x hx (hd | rfl)
      ·have := I1 x hx hd; omega
      ·omega
     ·intro x hx ho hl
      by_cases h : sg x < 2 * j
      ·exact .inl (I2 x hx ho h)
      ·exact .inr ((g3 x hx).1 (by omega))
     ·intro x hx he hl hnd
      by_cases h : sg x = 2 * (j + 1)
      ·exact k3 x hx h
      ·have hxl : sg x ≤ 2 * j := by omega
       have hnx : ¬ done x := fun h => hnd (.inl h)
       have base : QF r P n ops.toList H' s (opAt ops.toList x) := by
        rcases g5 x hx he hxl with hb | hf | hm
        ·exact absurd (ht.head hb) hnx
        ·exact (hfact x hx he hxl hnx).move hf H'
        ·exact hkf _ (List.mem_map.2 ⟨x, hm, rfl⟩)
       have hpi : ∀ t, (opAt ops.toList i).dst ≠ some t → put s (opAt ops.toList i).dst v t = s t := fun t h => by
        cases hdd : (opAt ops.toList i).dst with
        | none => rfl
        | some d => simp only [put]; rw [if_neg]; intro e; exact h (by rw [hdd, e])
       refine base.congr (fun t htr => ?_) (fun d hd => ?_)
       ·rw [k2 t fun y hy hys hyd => ?_, hpi t fun hid => ?_]
        ·rcases (pl.ssa x i hx hi t hid).1 htr with g | ⟨g, _⟩
         ·have := pl.ord x i hx hi g; omega
         ·exact hnx (ht.head g)
        ·rcases (pl.ssa x y hx hy t hyd).1 htr with g | ⟨_, g⟩
         ·have := pl.ord x y hx hy g; omega
         ·omega
       ·rw [k2 d fun y hy hys hyd => ?_, hpi d fun hid => ?_]
        ·exact (pl.ssa x i hx hi d hid).2 (fun e => by rw [← e] at hxl; omega) hd
        ·exact (pl.ssa x y hx hy d hyd).2 (fun e => by rw [e] at hys; omega) hd
     ·intro t
      by_cases hex : ∃ k, k < ops.size ∧ (sg k % 2 = 0 ∧ sg k ≤ 2 * (j + 1)) ∧ ¬ (done k ∨ k = i) ∧ (opAt ops.toList k).dst = some t
      ·exact .inl hex
      ·right
       have hst : ∀ y, y < ops.size → sg y = 2 * (j + 1) → (opAt ops.toList y).dst ≠ some t := fun y hy hys hyd =>
        hex ⟨y, hy, ⟨by omega, by omega⟩, fun h => by
         rcases h with h | h
         ·have := I1 y hy h; omega
         ·rw [h] at hys; omega, hyd⟩
       rw [k2 t hst]
       by_cases hdt : (opAt ops.toList i).dst = some t
       ·rw [hdt]
        have ht' : t < a.tmps.size := by rw [hsz]; rw [hdt] at hd; exact hd
        rw [put_getD_same ht']
        simp only [put, if_true]
        exact hv'
       ·rw [put_getD hdt]
        have : put s (opAt ops.toList i).dst v t = s t := by
         cases hdd : (opAt ops.toList i).dst with
         | none => rfl
         | some d => simp only [put]; rw [if_neg]; intro e; exact hdt (by rw [hdd, e])
        rw [this]
        rcases hP t with ⟨k, hk, hkq, hnd, hd'⟩ | h
        ·exact absurd ⟨k, hk, ⟨hkq.1, by omega⟩, fun h => h.elim hnd fun e => hdt (by rw [← e]; exact hd'), hd'⟩ hex
        ·exact h.mono hle
    ·intro S' cv v H' hle hH' hv' hk
     refine ⟨S', .pan v, wipe (pickO ops.toList (preOf stages j ++ st)) s, ds, H', rfl, hle, hH', fun t => ?_, hD.mono hle, hsz, ⟨cv, rfl, hv'⟩, hk⟩
     simp only [wipe]
     split
     ·exact .any _
     ·rename_i hno
      rcases hP t with ⟨k, hk, hkq, hnd, hd'⟩ | h
      ·exfalso
       apply hno
       rw [List.any_eq_true]
       refine ⟨opAt ops.toList k, List.mem_map.2 ⟨k, ?_, rfl⟩, by rw [hd']; simp⟩
       rw [show st = (st, kp, i).1 from rfl, ← preOf_succ hs]
       obtain ⟨q, hq⟩ : ∃ q, sg k = 2 * q := ⟨sg k / 2, by omega⟩
       have hql : q < stages.length := by omega
       rcases hxq : stages[q] with ⟨st', kp', e'⟩
       have hsq : stages[q]? = some (st', kp', e') := by rw [List.getElem?_eq_getElem hql, hxq]
       have hst' := (pl.st q st' kp' e' hsq).1
       simp only [preOf, List.mem_flatMap]
       refine ⟨(st', kp', e'), List.mem_of_getElem? (i := q) (by rw [List.getElem?_take_of_lt (by omega)]; exact hsq), ?_⟩
       show k ∈ st'
       rw [hst', List.mem_filter, List.mem_range]
       exact ⟨hk, by simp [hq]⟩
      ·exact h.mono hle


def ordersOf (all : List Oper) : Nat → List Nat → List (List Nat)
 | 0, _ => [[]]
 | n + 1, rem => rem.flatMap fun e => if rem.any (fun k => bitM all e k) = true then [] else (ordersOf all n (rem.filter fun k => k != e)).map (e :: ·)
theorem ordersOf_mem (all : List Oper) : ∀ (n : Nat) (rem m : List Nat), m.length = n → m.Nodup → (∀ x, x ∈ m ↔ x ∈ rem) → (∀ m1 i m2, m = m1 ++ i :: m2 → ∀ k, k ∈ m → bitM all i k = true → k ∈ m1) → m ∈ ordersOf all n rem := by
 intro n
 induction n with
 | zero =>
   intro rem m hl _ _ _
   have : m = [] := List.length_eq_zero_iff.1 hl
   subst this
   simp [ordersOf]
 | succ n ih =>
   intro rem m hl hn hm ho
   cases m with
   | nil => simp at hl
   | cons e m =>
     simp only [ordersOf, List.mem_flatMap]
     refine ⟨e, (hm e).1 (by simp), ?_⟩
     rw [if_neg]
     ·refine List.mem_map.2 ⟨m, ih _ m (by simpa using hl) (List.nodup_cons.1 hn).2 (fun x => ?_) (fun m1 i m2 h k hk hb => ?_), rfl⟩
      ·rw [List.mem_filter]
       constructor
       ·intro hx
        exact ⟨(hm x).1 (by simp [hx]), by simp only [bne_iff_ne]; rintro rfl; exact (List.nodup_cons.1 hn).1 hx⟩
       ·rintro ⟨h1, h2⟩
        rcases List.mem_cons.1 ((hm x).2 h1) with h | h
        ·simp [h] at h2
        ·exact h
      ·have := ho (e :: m1) i m2 (by rw [h]; rfl) k (by simp [hk]) hb
       rcases List.mem_cons.1 this with h3 | h3
       ·subst h3; exact absurd hk (List.nodup_cons.1 hn).1
       ·exact h3
     ·intro hany
      rw [List.any_eq_true] at hany
      obtain ⟨k, hk, hb⟩ := hany
      have := ho [] e m rfl k ((hm k).2 hk) hb
      simp at this
/-- What stands ahead of an operation, where the effects come in this order. -/
def bitE (all : List Oper) (E : List Nat) (i k : Nat) : Bool := bitM all i k || E.any fun eb => (i == eb || bitM all i eb) && (E.takeWhile fun x => x != eb).any fun ea => k == ea || bitM all ea k
theorem Topo.before {ops : Array Oper} {l : List Nat} (h : Topo ops (fun _ => False) l) {j i : Nat} (ha : Anc ops j i) : ∀ l1 l2, l = l1 ++ i :: l2 → j ∈ l1 := by
 induction ha with
 | edge ho he hb hj =>
   intro l1 l2 hl
   subst hj
   exact (h.edges l1 _ l2 hl _ ho _ he hb).resolve_left id
 | trans h1 h2 ih1 ih2 =>
   intro l1 l2 hl
   obtain ⟨a, b, rfl⟩ := List.append_of_mem (ih2 l1 l2 hl)
   have := ih1 a (b ++ _ :: l2) (by rw [hl, List.append_assoc]; rfl)
   exact List.mem_append_left _ this
theorem takeW_filter {p : Nat → Bool} {eb : Nat} : ∀ {a b : List Nat}, eb ∉ a → p eb = true → ((a ++ eb :: b).filter p).takeWhile (fun x => x != eb) = a.filter p
 | [], b, _, hp => by simp [hp]
 | x :: a, b, hn, hp => by
   have h1 : x ≠ eb := fun e => hn (by simp [e])
   have ih := takeW_filter (p := p) (eb := eb) (a := a) (b := b) (fun h => hn (by simp [h])) hp
   simp only [List.cons_append, List.filter_cons]
   split
   ·rw [List.takeWhile_cons, if_pos (by simp [h1]), ih]
   ·exact ih
theorem topoB_of {ops : Array Oper} {l : List Nat} (h : Topo ops (fun _ => False) l) (hb : ∀ i k, bitM ops.toList i k = true → Anc ops k i) (p : Nat → Bool) : TopoB ops (bitE ops.toList (l.filter p)) (fun _ => False) l := by
 refine ⟨h.lt, h.nodup, h.apart, h.all, fun l1 i l2 hl k hB => .inr ?_⟩
 simp only [bitE, Bool.or_eq_true, List.any_eq_true, Bool.and_eq_true, beq_iff_eq] at hB
 rcases hB with hB | ⟨eb, heb, h1, ea, hea, h2⟩
 ·exact h.before (hb _ _ hB) l1 l2 hl
 ·obtain ⟨hebl, hpe⟩ := List.mem_filter.1 heb
  -- eb stands at i or ahead of it
  have hsplit : ∃ q r, l = q ++ eb :: r ∧ ∀ x, x ∈ q → x ∈ l1 := by
   rcases h1 with h1 | h1
   ·subst h1; exact ⟨l1, l2, hl, fun _ hx => hx⟩
   ·obtain ⟨q, r, hq⟩ := List.append_of_mem (h.before (hb _ _ h1) l1 l2 hl)
    exact ⟨q, r ++ i :: l2, by rw [hl, hq, List.append_assoc]; rfl, fun x hx => by rw [hq]; exact List.mem_append_left _ hx⟩
  obtain ⟨q, r, hq, hql⟩ := hsplit
  have hne : eb ∉ q := by
   intro hm
   have hnd := h.nodup
   rw [hq] at hnd
   exact (List.nodup_append.1 hnd).2.2 eb hm eb (by simp) rfl
  rw [hq, takeW_filter hne hpe] at hea
  have heq := (List.mem_filter.1 hea).1
  rcases h2 with h2 | h2
  ·rw [h2]; exact hql _ heq
  ·obtain ⟨a, b, rfl⟩ := List.append_of_mem heq
   have := h.before (hb _ _ h2) a (b ++ eb :: r) (by rw [hq, List.append_assoc]; rfl)
   exact hql _ (List.mem_append_left _ this)

abbrev Pln := List Nat × List Stg × List Nat
def plan3Ok (ops : Array Oper) (E : List Nat) (sg : List Nat) (stages : List Stg) (last : List Nat) : Bool :=
 decide (stages.map (fun x => x.2.2) = E) &&
 ((List.range ops.size).all fun i => (List.range ops.size).all fun k => match (opAt ops.toList k).dst with
   | some d => (!(readsOf ops.toList (opAt ops.toList i)).contains d || bitE ops.toList E i k || (bitE ops.toList E k i && sg.getD k 0 % 2 == 1)) && (decide (k = i) || decide ((opAt ops.toList i).dst ≠ some d))
   | none => true) &&
 ((List.range stages.length).all fun j => match stages[j]? with
   | some (st, kp, e) => decide (st = (List.range ops.size).filter fun i => sg.getD i 0 == 2 * j) && decide (e < ops.size) &&
     ((List.range ops.size).all fun i => decide (sg.getD i 0 = 2 * j + 1) == decide (i = e)) &&
     ((List.range ops.size).all fun i => decide (sg.getD i 0 < 2 * j + 2) || bitE ops.toList E i e) &&
     ((List.range ops.size).all fun i => sg.getD i 0 % 2 == 1 || decide (2 * j < sg.getD i 0) || bitE ops.toList E e i || heapFree (opAt ops.toList i).op || kp.contains i)
   | none => true) &&
 decide (last = (List.range ops.size).filter fun i => sg.getD i 0 == 2 * stages.length) &&
 ((List.range ops.size).all fun i => decide (sg.getD i 0 ≤ 2 * stages.length)) &&
 ((List.range ops.size).all fun i => (List.range ops.size).all fun k => !bitE ops.toList E i k || (decide (sg.getD k 0 ≤ sg.getD i 0) && (decide (sg.getD i 0 ≠ sg.getD k 0) || decide (sg.getD i 0 % 2 ≠ 0) || decide (k < i))))

theorem plan3_of {ops : Array Oper} {E sg : List Nat} {stages : List Stg} {last : List Nat} (hb : ∀ i k, bitM ops.toList i k = true → Anc ops k i) (h : plan3Ok ops E sg stages last = true) :
  stages.map (fun x => x.2.2) = E ∧ Plan3 ops (bitE ops.toList E) (fun i => sg.getD i 0) stages last := by
 simp only [plan3Ok, Bool.and_eq_true, List.all_eq_true, List.mem_range] at h
 obtain ⟨⟨⟨⟨⟨h0, h3⟩, h4⟩, h5⟩, h6⟩, h7⟩ := h
 refine ⟨of_decide_eq_true h0, ?_, ?_, by simpa using h5, fun i hi => by simpa using h6 i hi, fun i k hi hk hbb => ?_, fun i k hi hk hbb hs he => ?_⟩
 ·intro i k hi hk d hd
  have := h3 i hi k hk
  rw [hd] at this
  simp only [Bool.and_eq_true, Bool.or_eq_true, Bool.not_eq_true', decide_eq_true_eq, beq_iff_eq] at this
  obtain ⟨g1, g2⟩ := this
  refine ⟨fun hm => ?_, fun hne => ?_⟩
  ·rcases g1 with (g1 | g1) | g1
   ·rw [List.contains_iff_mem.2 hm] at g1; cases g1
   ·exact .inl g1
   ·exact .inr ⟨g1.1, by simpa using g1.2⟩
  ·rcases g2 with g2 | g2
   ·exact absurd g2 hne
   ·exact g2
 ·intro j st kp e hj
  have hjl : j < stages.length := (List.getElem?_eq_some_iff.1 hj).1
  have := h4 j hjl
  rw [hj] at this
  simp only [Bool.and_eq_true, List.all_eq_true, List.mem_range, Bool.or_eq_true, decide_eq_true_eq, beq_iff_eq] at this
  obtain ⟨⟨⟨⟨g1, g2⟩, g3⟩, g4⟩, g5⟩ := this
  refine ⟨g1, g2, fun i hi => by have := g3 i hi; simpa using this, fun i hi hs => ?_, fun i hi he hs => ?_⟩
  ·rcases g4 i hi with hx | hx
   ·omega
   ·exact hx
  ·rcases g5 i hi with (((hx | hx) | hx) | hx) | hx
   ·omega
   ·omega
   ·exact .inl hx
   ·exact .inr (.inl hx)
   ·exact .inr (.inr (List.contains_iff_mem.1 hx))
 ·have := h7 i hi k hk
  simp only [Bool.or_eq_true, Bool.not_eq_true', Bool.and_eq_true, decide_eq_true_eq] at this
  rcases this with hx | hx
  ·rw [hbb] at hx; cases hx
  ·exact hx.1
 ·have := h7 i hi k hk
  simp only [Bool.or_eq_true, Bool.not_eq_true', Bool.and_eq_true, decide_eq_true_eq] at this
  rcases this with hx | ⟨_, (hx | hx) | hx⟩
  ·rw [hbb] at hx; cases hx
  ·exact absurd hs hx
  ·exact absurd he hx
  ·exact hx
theorem nodup_le {a b : List Nat} (ha : a.Nodup) (h : ∀ x, x ∈ a → x ∈ b) : a.length ≤ b.length := by
 induction a generalizing b with
 | nil => exact Nat.zero_le _
 | cons x a ih =>
   obtain ⟨h1, h2⟩ := List.nodup_cons.1 ha
   have hx : x ∈ b := h x (by simp)
   have := ih (b := b.erase x) h2 fun y hy => (List.mem_erase_of_ne (fun e => h1 (by rw [← e]; exact hy))).2 (h y (by simp [hy]))
   rw [List.length_erase_of_mem hx] at this
   have := List.length_pos_of_mem hx
   simp only [List.length_cons]
   omega
/-- A region whose order is open: a plan for each order of its effects. -/
def draw3Ok (P : Program) (ops : Array Oper) (effs : List Nat) (plans : List Pln) : Bool :=
 (P.follows .mixedOrders || !Region.departs ops) &&
 ((List.range ops.size).all fun k => match ops[k]? with
   | some o => o.after.toList.all fun e => !Region.binds .any e || decide (e.on < k)
   | none => true) &&
 effs.all (fun e => decide (e < ops.size)) && decide effs.Nodup &&
 (ordersOf ops.toList effs.length effs).all fun E => plans.any fun p => plan3Ok ops E p.1 p.2.1 p.2.2

theorem wps_draw3 {r : Option Nat} {P : Program} {mm : Option Tmp → Bool} {n id : Nat} {ops : Array Oper} {s : Fr} {ds : List AD} {H : Hp} {Q : Post} (effs : List Nat) (plans : List Pln)
  (hr : r = none ∨ ops.toList.all (fun o => quietOk o.op) = true) (hok : draw3Ok P ops effs plans = true) (h : ∀ p ∈ plans, vcD P mm n ops.toList [] p.2.1 p.2.2 s ds H Q) : WPS r P n (.region id ops true) s ds H Q := by
 simp only [draw3Ok, Bool.and_eq_true] at hok
 obtain ⟨⟨⟨⟨h1, h2⟩, h3⟩, h4⟩, h5⟩ := hok
 have hedge : ∀ k o e, ops[k]? = some o → e ∈ o.after → Region.binds .any e = true → e.on < k := by
  intro k o e ho he hb
  have hk : k < ops.size := (Array.getElem?_eq_some_iff.1 ho).1
  have := List.all_eq_true.1 h2 k (List.mem_range.2 hk)
  rw [ho] at this
  simp only [List.all_eq_true, Bool.or_eq_true, Bool.not_eq_true', decide_eq_true_eq] at this
  rcases this e (by simpa using he) with hx | hx
  ·rw [hb] at hx; cases hx
  ·exact hx
 have hanc : ∀ i k, bitM ops.toList i k = true → Anc ops k i := fun q j hq =>
  masks_spec ops.toList [] (fun q h1 h2 => by simp) (fun q hq => absurd hq (by simp)) q j hq
 intro S a hn hH hF hD
 refine wpIn_region_draw fun t => ?_
 have hsch : Region.schedule (P.follows .mixedOrders) ops t = Region.linearise .any ops t := by
  unfold Region.schedule
  rw [if_pos h1]
 rw [hsch]
 have htopo := linearise_topo hedge t
 generalize Region.linearise .any ops t = l at htopo ⊢
 have hE : l.filter (effs.contains ·) ∈ ordersOf ops.toList effs.length effs := by
  have hmem : ∀ x, x ∈ l.filter (effs.contains ·) ↔ x ∈ effs := fun x => by
   rw [List.mem_filter]
   constructor
   ·rintro ⟨_, hx⟩; exact List.contains_iff_mem.1 hx
   ·intro hx
    have := of_decide_eq_true (List.all_eq_true.1 h3 x hx)
    exact ⟨(htopo.all x this).resolve_left (fun h => h), List.contains_iff_mem.2 hx⟩
  have hnd : (l.filter (effs.contains ·)).Nodup := List.Pairwise.filter _ htopo.nodup
  refine ordersOf_mem _ _ _ _ ?_ hnd hmem fun m1 i m2 hm k hk hb => ?_
  ·have hnd2 := of_decide_eq_true h4
   exact Nat.le_antisymm (nodup_le hnd fun x hx => (hmem x).1 hx) (nodup_le hnd2 fun x hx => (hmem x).2 hx)
  ·have hil : i ∈ l.filter (effs.contains ·) := by rw [hm]; simp
   obtain ⟨hil, hpi⟩ := List.mem_filter.1 hil
   obtain ⟨a', b', hl⟩ := List.append_of_mem hil
   have hka := htopo.before (hanc _ _ hb) a' b' hl
   have hni : i ∉ a' := by
    intro hx
    have := htopo.nodup
    rw [hl] at this
    exact (List.nodup_append.1 this).2.2 i hx i (by simp) rfl
   have hnm : i ∉ m1 := by
    intro hx
    rw [hm] at hnd
    exact (List.nodup_append.1 hnd).2.2 i hx i (by simp) rfl
   have e1 := takeW_filter (p := (effs.contains ·)) (a := a') (b := b') hni hpi
   rw [← hl, hm] at e1
   have e2 := takeW_filter (p := fun _ => true) (a := m1) (b := m2) hnm rfl
   rw [List.filter_eq_self.2 (fun _ _ => rfl), List.filter_eq_self.2 (fun _ _ => rfl)] at e2
   rw [e2] at e1
   rw [e1]
   exact List.mem_filter.2 ⟨hka, (List.mem_filter.1 hk).2⟩
 obtain ⟨⟨sg, stages, last⟩, hp, hpk⟩ := List.any_eq_true.1 (List.all_eq_true.1 h5 _ hE)
 have hv := h _ hp
 have hpk : plan3Ok ops _ sg stages last = true := hpk
 obtain ⟨_, pl⟩ := plan3_of hanc hpk
 have hB := topoB_of htopo hanc (effs.contains ·)
 simp only [] at hv
 rw [vcD_eq] at hv
 have hst : hdS stages last = (List.range ops.size).filter fun x => sg.getD x 0 == 2 * 0 := by
  cases stages with
  | nil => exact pl.last
  | cons x r => obtain ⟨st, kp, e⟩ := x; exact (pl.st 0 st kp e rfl).1
 rw [hst] at hv
 obtain ⟨sF, k1, k2, k3⟩ := stage_facts3 (r := r) pl (by omega) hv
 have hle : Le S { S with w := { S.w with drawn := S.w.drawn + 1 } } :=
  ⟨rfl, rfl, rfl, Nat.le_refl _, fun _ h => h, fun _ _ => rfl, fun _ _ _ => rfl, Nat.le_refl _, fun _ c _ _ h => ⟨c, h, rfl⟩⟩
 have hH' : HRel { S with w := { S.w with drawn := S.w.drawn + 1 } } H :=
  ⟨hH.fresh, hH.immlt, fun i o ho => (hH.obj i o ho).keep hle (fun _ => rfl) (fun _ _ => rfl) (fun _ _ _ h => h), hH.inj, fun p hp => (hH.giv p hp).mono hle⟩
 refine lift_wpOpsIn hle _ _ _ (draw_run3 (mm := mm) (sg := fun i => sg.getD i 0) pl hr l (fun _ => False) 0 sF ds H _ a hB (fun _ _ h => h.elim) (fun _ _ _ h => by omega)
  (fun i hi he hl _ => k3 i hi (by omega)) k1 hn hH' (hD.mono hle) ?_)
 intro t
 by_cases hx : ∃ k, k < ops.size ∧ (sg.getD k 0 % 2 = 0 ∧ sg.getD k 0 ≤ 2 * 0) ∧ (opAt ops.toList k).dst = some t
 ·obtain ⟨k, a1, a2, a3⟩ := hx
  exact .inl ⟨k, a1, a2, fun h => h, a3⟩
 ·right
  rw [k2 t (fun i hi h0 e => hx ⟨i, hi, ⟨by omega, by omega⟩, e⟩)]
  exact (hF t).mono hle

section
variable {r : Option Nat} {P : Program} {m : Option Tmp → Bool} {n : Nat} {k : List It} {s : Fr} {ds : List AD} {H : Hp} {Q : Post}
theorem vs_draw3 {id : Nat} {l : List Oper} (effs : List Nat) (plans : List Pln) (hok : draw3Ok P l.toArray effs plans = true) (h : ∀ p ∈ plans, VS none P m n (expand l [] p.2.2 p.2.1 k) s ds H Q) :
  VS none P m n (.code (.region id l.toArray true) :: k) s ds H Q := by
 show WPS none P n (.region id l.toArray true) s ds H (TK none P m n k Q)
 refine wps_draw3 (mm := m) effs plans (.inl rfl) hok fun p hp => ?_
 rw [List.toList_toArray, vcD_expand]; exact h p hp
end
end Go.V
end
section
set_option linter.unusedVariables false
namespace Go.V
set_option linter.unusedSectionVars false
variable [Inhabited GivT]
def CutS {σ : Type} (inv : σ → Prop) (fr : σ → List (Nat × AV)) (hp : σ → Hp) (ds0 : List AD) : Post := fun e s ds H => match e with
 | .normal => Ent s ds H fun s2 ds2 H2 => ∃ x, inv x ∧ s2 = Fr.of (fr x) ∧ ds2 = ds0 ∧ H2 = hp x
 | _ => False
section
variable {P : Program} {m : Option Tmp → Bool} {n : Nat} {k : List It} {s : Fr} {ds : List AD} {H : Hp} {Q : Post}
end
end Go.V
end
section
set_option linter.unusedVariables false
namespace Go.V
set_option linter.unusedSectionVars false
variable [Inhabited GivT]
def CutG {σ : Type} (inv : σ → Prop) (fr : σ → List (Nat × AV)) (hp : σ → Hp) (dsf : σ → List AD) (Q : Post) : Post := fun e s ds H => match e with
 | .normal => Ent s ds H fun s2 ds2 H2 => ∃ x, inv x ∧ s2 = Fr.of (fr x) ∧ ds2 = dsf x ∧ H2 = hp x
 | e => Q e s ds H
section
variable {r : Option Nat} {P : Program} {m : Option Tmp → Bool} {n : Nat} {s : Fr} {ds : List AD} {H : Hp} {Q : Post} {σ : Type} {inv : σ → Prop} {fr : σ → List (Nat × AV)} {hp : σ → Hp} {dsf : σ → List AD}
theorem CutG_ret : CutG inv fr hp dsf Q .ret s ds H = Q .ret s ds H := rfl
theorem cutG_of (x : σ) (h : inv x) (hs : Slots s (fr x)) (hd : ds = dsf x) (hH : HSub H (hp x)) : CutG inv fr hp dsf Q .normal s ds H := by
 subst hd
 exact Ent.of (fr x) hs hH ⟨x, h, rfl, rfl, rfl⟩
end
section
variable {r : Option Nat} {P : Program} {m : Option Tmp → Bool} {n : Nat} {s : Fr} {ds : List AD} {H : Hp} {Q : Post} {σ : Type} (inv : σ → Prop) (fr : σ → List (Nat × AV)) (hp : σ → Hp) (dsf : σ → List AD)
theorem wps_cutG {a b : Code} (h1 : VS r P m n [.code a] s ds H (CutG inv fr hp dsf Q)) (h2 : ∀ x, inv x → WPS r P n b (Fr.of (fr x)) (dsf x) (hp x) Q) : WPS r P n (.seq a b) s ds H Q := by
 refine wps_seq ((vcC_sound a h1).mono fun x s' ds' H' hq => ?_)
 cases x with
 | normal =>
   have hq : Ent s' ds' H' fun s2 ds2 H2 => ∃ x, inv x ∧ s2 = Fr.of (fr x) ∧ ds2 = dsf x ∧ H2 = hp x := hq
   refine wps_ent (hq.mono fun s2 ds2 H2 hx => ?_)
   obtain ⟨x, hi, rfl, rfl, rfl⟩ := hx
   exact h2 x hi
 | ret => exact hq
 | pan v => exact hq
 | exit i => exact hq
theorem wps_cutG2 {a b c : Code} (h1 : VS r P m n [.code a, .code b] s ds H (CutG inv fr hp dsf Q)) (h2 : ∀ x, inv x → WPS r P n c (Fr.of (fr x)) (dsf x) (hp x) Q) : WPS r P n (.seq a (.seq b c)) s ds H Q := by
 refine wps_seq ((vcC_sound a h1).mono fun x s' ds' H' hq => ?_)
 cases x with
 | normal => exact wps_cutG inv fr hp dsf hq h2
 | ret => exact hq
 | pan v => exact hq
 | exit i => exact hq
theorem wps_cutG3 {a b c d : Code} (h1 : VS r P m n [.code a, .code b, .code c] s ds H (CutG inv fr hp dsf Q)) (h2 : ∀ x, inv x → WPS r P n d (Fr.of (fr x)) (dsf x) (hp x) Q) : WPS r P n (.seq a (.seq b (.seq c d))) s ds H Q := by
 refine wps_seq ((vcC_sound a h1).mono fun x s' ds' H' hq => ?_)
 cases x with
 | normal => exact wps_cutG2 inv fr hp dsf hq h2
 | ret => exact hq
 | pan v => exact hq
 | exit i => exact hq
end
theorem tri_wam {P : Program} {g : FuncId} {T : RefT} {H : Hp} {f : FuncId} {fn : Func} {c : Code} {caps args : List AV} {R : Res → Hp → Prop} (hg : AnsOk P g T)
  (hf : P.funcs[f]? = some fn) (hname : (fn.name == "runtime.NumGoroutine") = false)
  (hb : fn.body = some c) (hlen : (args ++ caps).length ≤ fn.ntmps) (hbody : WPS none P fn.ntmps c (argFr (args ++ caps)) [] H (FnPostAM P fn g T R)) : Tri P (.func (.func f) [] caps) args H R := by
 intro S vf vs hH hvf ha
 cases hvf with
 | @func _ _ _ ws us hn hm h h' =>
   have hws : ws = #[] := by simpa using hn
   subst hws
   refine ⟨.enter f (vs.toArray ++ us), ?_, ?_⟩
   ·have hcf : (callFunc f (vs.toArray ++ us)).run P S.w = .ok (.enter f (vs.toArray ++ us)) S.w := by
     simp only [callFunc, Sem.run_bind, run_program, Result.andThen_ok, hf, hname, hb]
     simp
    simp only [Deferred.ofValue, Sem.run_bind, Sem.run_pure, Result.andThen_ok, invoke]
    have e : (#[] : Array Value) ++ vs.toArray = vs.toArray := by simp
    rw [e]
    exact hcf
   ·refine body_callsAM hg hf hb hlen hbody hH ?_
    refine ⟨by simp [ha.1, hm], fun k hk => ?_⟩
    simp only [List.getD, Array.toList_append]
    by_cases hk' : k < args.length
    ·rw [List.getElem?_append_left hk', List.getElem?_append_left (by rw [ha.1]; exact hk')]
     exact ha.2 k hk'
    ·have e1 := ha.1
     simp only [List.length_append] at hk
     rw [List.getElem?_append_right (by omega), List.getElem?_append_right (by omega), e1]
     have := h' (k - args.length) (by omega)
     simpa [List.getD, Array.getD_eq_getD_getElem?] using this
theorem tri_wm {P : Program} {H : Hp} {f : FuncId} {fn : Func} {c : Code} {caps args : List AV} {R : Res → Hp → Prop}
  (hf : P.funcs[f]? = some fn) (hname : (fn.name == "runtime.NumGoroutine") = false)
  (hb : fn.body = some c) (hlen : (args ++ caps).length ≤ fn.ntmps) (hbody : WPS none P fn.ntmps c (argFr (args ++ caps)) [] H (FnPostM P fn R)) : Tri P (.func (.func f) [] caps) args H R := by
 intro S vf vs hH hvf ha
 cases hvf with
 | @func _ _ _ ws us hn hm h h' =>
   have hws : ws = #[] := by simpa using hn
   subst hws
   refine ⟨.enter f (vs.toArray ++ us), ?_, ?_⟩
   ·have hcf : (callFunc f (vs.toArray ++ us)).run P S.w = .ok (.enter f (vs.toArray ++ us)) S.w := by
     simp only [callFunc, Sem.run_bind, run_program, Result.andThen_ok, hf, hname, hb]
     simp
    simp only [Deferred.ofValue, Sem.run_bind, Sem.run_pure, Result.andThen_ok, invoke]
    have e : (#[] : Array Value) ++ vs.toArray = vs.toArray := by simp
    rw [e]
    exact hcf
   ·refine body_callsM hf hb hlen hbody hH ?_
    refine ⟨by simp [ha.1, hm], fun k hk => ?_⟩
    simp only [List.getD, Array.toList_append]
    by_cases hk' : k < args.length
    ·rw [List.getElem?_append_left hk', List.getElem?_append_left (by rw [ha.1]; exact hk')]
     exact ha.2 k hk'
    ·have e1 := ha.1
     simp only [List.length_append] at hk
     rw [List.getElem?_append_right (by omega), List.getElem?_append_right (by omega), e1]
     have := h' (k - args.length) (by omega)
     simpa [List.getD, Array.getD_eq_getD_getElem?] using this
end Go.V
end
section
set_option linter.unusedVariables false
namespace Go.V
set_option linter.unusedSectionVars false
variable [Inhabited GivT]
section
variable {r : Option Nat} {P : Program} {m : Option Tmp → Bool} {n : Nat} {s : Fr} {ds : List AD} {H : Hp} {Q : Post} {σ : Type} (inv : σ → Prop) (fr : σ → List (Nat × AV)) (hp : σ → Hp) (dsf : σ → List AD)
theorem wps_cutG4 {a0 a1 a2 a3 b : Code} (h1 : VS r P m n [.code a0, .code a1, .code a2, .code a3] s ds H (CutG inv fr hp dsf Q)) (h2 : ∀ x, inv x → WPS r P n b (Fr.of (fr x)) (dsf x) (hp x) Q) : WPS r P n (.seq a0 (.seq a1 (.seq a2 (.seq a3 b)))) s ds H Q := by
 refine wps_seq ((vcC_sound a0 h1).mono fun x s' ds' H' hq => ?_)
 cases x with
 | normal => exact wps_cutG3 inv fr hp dsf hq h2
 | ret => exact hq
 | pan v => exact hq
 | exit i => exact hq
theorem wps_cutG5 {a0 a1 a2 a3 a4 b : Code} (h1 : VS r P m n [.code a0, .code a1, .code a2, .code a3, .code a4] s ds H (CutG inv fr hp dsf Q)) (h2 : ∀ x, inv x → WPS r P n b (Fr.of (fr x)) (dsf x) (hp x) Q) : WPS r P n (.seq a0 (.seq a1 (.seq a2 (.seq a3 (.seq a4 b))))) s ds H Q := by
 refine wps_seq ((vcC_sound a0 h1).mono fun x s' ds' H' hq => ?_)
 cases x with
 | normal => exact wps_cutG4 inv fr hp dsf hq h2
 | ret => exact hq
 | pan v => exact hq
 | exit i => exact hq
theorem wps_cutG6 {a0 a1 a2 a3 a4 a5 b : Code} (h1 : VS r P m n [.code a0, .code a1, .code a2, .code a3, .code a4, .code a5] s ds H (CutG inv fr hp dsf Q)) (h2 : ∀ x, inv x → WPS r P n b (Fr.of (fr x)) (dsf x) (hp x) Q) : WPS r P n (.seq a0 (.seq a1 (.seq a2 (.seq a3 (.seq a4 (.seq a5 b)))))) s ds H Q := by
 refine wps_seq ((vcC_sound a0 h1).mono fun x s' ds' H' hq => ?_)
 cases x with
 | normal => exact wps_cutG5 inv fr hp dsf hq h2
 | ret => exact hq
 | pan v => exact hq
 | exit i => exact hq
theorem wps_cutG7 {a0 a1 a2 a3 a4 a5 a6 b : Code} (h1 : VS r P m n [.code a0, .code a1, .code a2, .code a3, .code a4, .code a5, .code a6] s ds H (CutG inv fr hp dsf Q)) (h2 : ∀ x, inv x → WPS r P n b (Fr.of (fr x)) (dsf x) (hp x) Q) : WPS r P n (.seq a0 (.seq a1 (.seq a2 (.seq a3 (.seq a4 (.seq a5 (.seq a6 b))))))) s ds H Q := by
 refine wps_seq ((vcC_sound a0 h1).mono fun x s' ds' H' hq => ?_)
 cases x with
 | normal => exact wps_cutG6 inv fr hp dsf hq h2
 | ret => exact hq
 | pan v => exact hq
 | exit i => exact hq
theorem wps_cutG8 {a0 a1 a2 a3 a4 a5 a6 a7 b : Code} (h1 : VS r P m n [.code a0, .code a1, .code a2, .code a3, .code a4, .code a5, .code a6, .code a7] s ds H (CutG inv fr hp dsf Q)) (h2 : ∀ x, inv x → WPS r P n b (Fr.of (fr x)) (dsf x) (hp x) Q) : WPS r P n (.seq a0 (.seq a1 (.seq a2 (.seq a3 (.seq a4 (.seq a5 (.seq a6 (.seq a7 b)))))))) s ds H Q := by
 refine wps_seq ((vcC_sound a0 h1).mono fun x s' ds' H' hq => ?_)
 cases x with
 | normal => exact wps_cutG7 inv fr hp dsf hq h2
 | ret => exact hq
 | pan v => exact hq
 | exit i => exact hq
end
/-- A cut, where more is to be said first. -/
theorem cutG_ent {σ : Type} {inv : σ → Prop} {fr : σ → List (Nat × AV)} {hp : σ → Hp} {dsf : σ → List AD} {Q : Post} {s : Fr} {ds : List AD} {H : Hp} (h : Ent s ds H fun s ds H => CutG inv fr hp dsf Q .normal s ds H) : CutG inv fr hp dsf Q .normal s ds H := Ent.bind h fun _ _ _ h => h
end Go.V
end
section
set_option linter.unusedVariables false
set_option linter.unusedSimpArgs false
namespace Go.V
set_option linter.unusedSectionVars false
variable [Inhabited GivT]
/-- The same value, with some leaves told otherwise, in rows too. -/
inductive FrzS (L : AV → AV → Prop) : AV → AV → Prop
 | same (x : AV) : FrzS L x x
 | leaf {x y : AV} (h : L x y) : FrzS L x y
 | agg {cs cs' : List AV} (hl : cs'.length = cs.length) (h : ∀ k, k < cs.length → FrzS L (cs.getD k .any) (cs'.getD k .any)) : FrzS L (.agg cs) (.agg cs')
 | rsl {n st : Nat} {f g : Nat → List AV} (hl : ∀ k, k < n → (f k).length = st → (g k).length = st) (h : ∀ k l, k < n → l < st → FrzS L ((f k).getD l .any) ((g k).getD l .any)) : FrzS L (.rsl n st f) (.rsl n st g)
theorem FrzS.conv {L : AV → AV → Prop} {S S2 : St} (hle : Le S S2) (hc : ∀ x y, L x y → ∀ v, VRel S x v → VRel S2 y v) {x y : AV} (hxy : FrzS L x y) : ∀ v, VRel S x v → VRel S2 y v := by
 induction hxy with
 | same x => intro v hv; exact hv.mono hle
 | leaf h => intro v hv; exact hc _ _ h v hv
 | agg hl h ih =>
   intro v hv
   cases hv with
   | agg hn hv => exact .agg (hn.trans hl.symm) fun k hk => ih k (by omega) _ (hv k (by omega))
 | @rsl n st f g hl h ih =>
   intro v hv
   cases hv with
   | rsl0 => exact .rsl0
   | rsl hi hb hsz hf hh hcap =>
     exact .rsl (hle.imm _ hi) ((hle.keep _ hi).trans hb) hsz (fun k hk => hl k hk (hf k hk)) (fun k l hk hl2 => ih k l hk hl2 _ (hh k l hk hl2)) hcap
/-- What slots hold, slot by slot. -/
inductive FrzL (L : AV → AV → Prop) : List (Nat × AV) → List (Nat × AV) → Prop
 | nil : FrzL L [] []
 | cons {t : Nat} {v v' : AV} {l l' : List (Nat × AV)} (h : FrzS L v v') (k : FrzL L l l') : FrzL L ((t, v) :: l) ((t, v') :: l')
theorem FrzL.refl {L : AV → AV → Prop} : ∀ l : List (Nat × AV), FrzL L l l
 | [] => .nil
 | (_, v) :: l => .cons (.same v) (FrzL.refl l)
theorem FrzL.fr {L : AV → AV → Prop} {l l' : List (Nat × AV)} (h : FrzL L l l') : ∀ t, FrzS L (Fr.of l t) (Fr.of l' t) := by
 intro t
 induction h with
 | nil => exact .same _
 | cons hv _ ih =>
   simp only [Fr.of]
   split
   ·exact hv
   ·exact ih
end Go.V
end
section
set_option linter.unusedVariables false
set_option linter.unusedSimpArgs false
namespace Go.V
set_option linter.unusedSectionVars false
variable [Inhabited GivT]
theorem wpSIn_rec {F : Fence} {n : Nat} {P : Program} {Q : Exit → Act → List Frame → World → Prop} {a : Act} {cs cs' : List Frame} {w : World} {id : Nat} {ops : Array Oper} {o : Oper} {rest : List Nat} {v : Value}
  (hro : F.round = none) (ho : ops[0]? = some o) (hl : List.range ops.size = 0 :: rest) (hw : Region.wanted o (yielded ops a.tmps) = true) (hx : (execOp a.eval o).run P w = .ok .recover w)
  (hab : ∀ f, o.about P w a.eval = some f → F.fn f) (hrec : recoverD cs = some (v, cs') ∨ (recoverD cs = none ∧ cs' = cs ∧ v = .nilIface))
  (h : wpOpsIn F n P ops (fun e a' w' => Q e a' cs' w') rest (a.put o.dst v) w) : (Code.region id ops false).wpSIn F n P Q a cs w := by
 intro b k hb hr hF hroom
 have hlen : cs'.length = cs.length := by
  rcases hrec with hrec | ⟨_, rfl, _⟩
  ·exact recoverD_length hrec
  ·rfl
 obtain ⟨e, a', w', hq, harr⟩ := wp_opsIn rest _ _ h b k cs' (hr.trans hro.symm) hF (hlen ▸ hroom)
 refine ⟨e, a', cs', w', hlen, hq, .of_steps (.head (fenced_calm hF hroom rfl) stepR_region (.one ?_ ?_)) harr⟩
 ·exact hl ▸ fenced_oper hF hroom ho hab
 rw [hl]
 have hg := stepGR_op (P := P) (b := b) (k := k) (cs := cs) (w := w) (rest := rest) ho hw
 rw [hr, Oper.semAt_none] at hg
 have hfin : ∀ v, (b.atR a (.inRegion ops (0 :: rest) :: k)).finish v = b.atR (a.put o.dst v) (.inRegion ops rest :: k) := by
  intro v; rw [Frame.finish_atR, ho]; rfl
 have hk : (b.atR a (.inRegion ops (0 :: rest) :: k)).kind = .deferred := hb
 have htr := tryRecover_deferred hk cs
 refine step_lone_go ?_
 rw [hg, ← hfin]
 simp only [Frame.atR, hr] at htr ⊢
 rcases hrec with hrec | ⟨hrec, rfl, rfl⟩ <;> simp [stepG.apply, hx, htr, hrec]

theorem wpOpsIn_mono {F : Fence} {n : Nat} {P : Program} {ops : Array Oper} {Q Q' : Exit → Act → World → Prop} (hm : ∀ e a w, Q e a w → Q' e a w) : ∀ (l : List Nat) (a : Act) (w : World), wpOpsIn F n P ops Q l a w → wpOpsIn F n P ops Q' l a w := by
 intro l
 induction l with
 | nil => intro a' w h; exact hm _ _ _ h
 | cons i l ih =>
   intro a' w h
   simp only [wpOpsIn] at h ⊢
   split
   ·rename_i e; simp only [e] at h; exact ih _ _ h
   ·rename_i o' e
    simp only [e] at h
    split
    ·rename_i hw
     rw [if_pos hw] at h
     refine ⟨h.1, ?_⟩
     have h2 := h.2
     generalize (o'.semAt F.round a'.eval).run P w = res at h2 ⊢
     cases res with
     | ok nx w' =>
       cases nx <;> simp only [Oper.uponIn] at h2 ⊢ <;> try exact ih _ _ h2
       ·exact ⟨h2.1, h2.2.mono fun e w he => by
         cases e with
         | returned v => exact ih _ _ he
         | panicked ch => exact hm _ _ _ he
         | outgrown => obtain ⟨a0, w0, hx⟩ := he; exact ⟨a0, w0, hm _ _ _ hx⟩⟩
       ·exact ⟨h2.1, h2.2.mono fun e w he => by
         cases e with
         | returned v => exact ih _ _ he
         | panicked ch => exact hm _ _ _ he
         | outgrown => obtain ⟨a0, w0, hx⟩ := he; exact ⟨a0, w0, hm _ _ _ hx⟩⟩
       ·exact ⟨h2.1, h2.2.mono fun v w he => ih _ _ he⟩
     | halt x w' => cases x <;> simp only [Oper.uponIn] at h2 ⊢ <;> first | exact hm _ _ _ h2 | exact h2
    ·rename_i hw; rw [if_neg hw] at h; exact ⟨h.1, ih _ _ h.2⟩

/-- A deferred function: it recovers, then one more operation. -/
theorem ansR {P : Program} {g : FuncId} {fn : Func} {id t1 : Nat} {Tr : TypeId} {p1 : String} {a1 : Array Edge} {o2 : Oper} {m : Option Tmp → Bool} (hf : P.funcs[g]? = some fn)
  (hb : fn.body = some (.region id #[⟨some t1, .call ⟨.builtin .recover, #[], #[]⟩, Tr, p1, a1, none⟩, o2] false))
  (hr : fn.results = #[]) {args : List AV} {H : Hp} {Q : Hp → Prop} {S : St} {vs : Array Value} {u u' : FrameMode} {rv : AV} {cv : Value} (hlen : args.length ≤ fn.ntmps)
  (hrec : ∀ (c₀ : Frame) (cs : List Frame), c₀.mode = u → recoverD (c₀ :: cs) = some (cv, { c₀ with mode := u' } :: cs) ∨ (recoverD (c₀ :: cs) = none ∧ u' = u ∧ cv = .nilIface))
  (hH : HRel S H) (ha : VRels S args vs.toList) (hrv : VRel S rv cv) (h1 : t1 < fn.ntmps)
  (hbody : vcOps P m fn.ntmps [⟨some t1, .call ⟨.builtin .recover, #[], #[]⟩, Tr, p1, a1, none⟩, o2] [o2] (put (argFr args) (some t1) rv) [] H (fun x s ds H' => (x = .normal ∨ x = .ret) ∧ ds = [] ∧ Q H')) :
  CallsDIn Fence.wide 0 P g vs u S.w fun e u2 w => (∃ v, e = .returned v) ∧ u2 = u' ∧ ∃ S' H', S'.w = w ∧ Le S S' ∧ HRel S' H' ∧ Q H' := by
 have hsz : vs.size = args.length := ha.size.1
 refine callsDIn_of_wpSIn hf hb trivial fun c₀ cs hu => ?_
 have hF0 := argFr_rel (n := fn.ntmps) ha
 generalize ha0 : ({ tmps := vs ++ Array.replicate (fn.ntmps - vs.size) undef, defers := [] } : Act) = a0 at hF0 ⊢
 have hn0 : a0.tmps.size = fn.ntmps := by rw [← ha0]; simp; omega
 have hd0 : a0.defers = [] := by rw [← ha0]
 refine wpSIn_rec (cs' := { c₀ with mode := u' } :: cs) (v := cv) (rest := [1]) rfl rfl rfl (by simp [Region.wanted]) (by simp [execOp, resolve, invoke, builtin]) (fun _ _ => trivial) ?_ ?_
 ·rcases hrec c₀ cs hu with h | ⟨h, rfl, h'⟩
  ·exact .inl h
  ·exact .inr ⟨h, by subst hu; rfl, h'⟩
 ·have h := vcOps_sound (r := none) (P := P) (m := m) (n := fn.ntmps) (ops := #[⟨some t1, .call ⟨.builtin .recover, #[], #[]⟩, Tr, p1, a1, none⟩, o2]) (.inl rfl) [o2] [1] _ [] H (by simp) rfl hbody S (a0.put (some t1) cv)
   (by simp [Act.put, hn0]) hH (FRel.put (n := fn.ntmps) (d := some t1) hF0 h1 hn0 hrv a0.defers) (by simp [Act.put, hd0]; exact .nil)
  refine wpOpsIn_mono ?_ _ _ _ h
  rintro e a w ⟨S', x, s, ds, H', rfl, hle, hH', hF, hD, hn, hx, hx2, hds, hq⟩
  subst hds
  have hdn := hD.nil_inv
  have hres : (results fn a.tmps).run P S'.w = .ok (.tuple #[]) S'.w := by
   rw [results_eq, hr]; simp
  have fin : a.defers = [] ∧ ∃ u'', { c₀ with mode := u' } :: cs = { c₀ with mode := u'' } :: cs ∧ ∃ v, (results fn a.tmps).run P S'.w = .ok v S'.w ∧ ((∃ v', Ending.returned v = Ending.returned v') ∧ u'' = u' ∧ ∃ S2 H2, S2.w = S'.w ∧ Le S S2 ∧ HRel S2 H2 ∧ Q H2) :=
   ⟨hdn, u', rfl, _, hres, ⟨_, rfl⟩, rfl, S', H', rfl, hle, hH', hq⟩
  cases e with
  | normal => exact fin
  | ret => exact fin
  | exit i => rcases hx2 with rfl | rfl <;> simp [XRel] at hx
  | goto l => rcases hx2 with rfl | rfl <;> simp [XRel] at hx
  | outgrown => rcases hx2 with rfl | rfl <;> simp [XRel] at hx
  | panic ch => rcases hx2 with rfl | rfl <;> simp [XRel] at hx

end Go.V
end
section
set_option linter.unusedVariables false
set_option linter.unusedSimpArgs false
namespace Go.V
set_option linter.unusedSectionVars false
variable [Inhabited GivT]
theorem wpOpsIn_append {F : Fence} {n : Nat} {P : Program} {ops : Array Oper} {Q : Exit → Act → World → Prop} (l2 : List Nat) : ∀ (l1 : List Nat) (a : Act) (w : World),
  wpOpsIn F n P ops (fun e a w => match e with | .normal => wpOpsIn F n P ops Q l2 a w | e => Q e a w) l1 a w → wpOpsIn F n P ops Q (l1 ++ l2) a w := by
 intro l1
 induction l1 with
 | nil => intro a w h; exact h
 | cons i l ih =>
   intro a' w h
   rw [List.cons_append]
   simp only [wpOpsIn] at h ⊢
   split
   ·rename_i e; simp only [e] at h; exact ih _ _ h
   ·rename_i o' e
    simp only [e] at h
    split
    ·rename_i hw
     rw [if_pos hw] at h
     refine ⟨h.1, ?_⟩
     have h2 := h.2
     generalize (o'.semAt F.round a'.eval).run P w = res at h2 ⊢
     cases res with
     | ok nx w' =>
       cases nx <;> simp only [Oper.uponIn] at h2 ⊢ <;> try exact ih _ _ h2
       ·exact ⟨h2.1, h2.2.mono fun e w he => by
         cases e with
         | returned v => exact ih _ _ he
         | panicked ch => exact he
         | outgrown => exact he⟩
       ·exact ⟨h2.1, h2.2.mono fun e w he => by
         cases e with
         | returned v => exact ih _ _ he
         | panicked ch => exact he
         | outgrown => exact he⟩
       ·exact ⟨h2.1, h2.2.mono fun v w he => ih _ _ he⟩
     | halt x w' => cases x <;> simp only [Oper.uponIn] at h2 ⊢ <;> first | exact h2
    ·rename_i hw; rw [if_neg hw] at h; exact ⟨h.1, ih _ _ h.2⟩
theorem wpOpsIn_mono' {F : Fence} {n : Nat} {P : Program} {ops : Array Oper} {Q Q' : Exit → Act → World → Prop} (hm : ∀ e a w, Q e a w → Q' e a w) (l : List Nat) (a : Act) (w : World) (h : wpOpsIn F n P ops Q l a w) : wpOpsIn F n P ops Q' l a w := wpOpsIn_mono hm l a w h
section
variable {P : Program} {m : Option Tmp → Bool} {n id : Nat} {ops : Array Oper} {s : Fr} {ds : List AD} {H : Hp} {Q : Post}
end
end Go.V
end
section
set_option linter.unusedVariables false
set_option linter.unusedSimpArgs false
namespace Go.V
set_option linter.unusedSectionVars false
variable [Inhabited GivT]
/-- Yields, one after another, each of which keeps one object more. -/
def IterB (P : Program) (y : AV) (Pre : Hp → Prop) : List (List AV) → Hp → (Hp → Prop) → Prop
 | [], H, K => K H
 | x :: l, H, K => Pre H ∧ ∀ j o, H j = none → Tri P y x (H.set j o) fun r H' => (r = .ret (.lit (.bool true)) ∧ ∃ H1, H1 j = none ∧ H' = H1.set j o ∧ IterB P y Pre l H1 K) ∨ (r = .ret (.lit (.bool false)) ∧ K H')
section
variable {P : Program} {m : Option Tmp → Bool} {n : Nat} {k : List It} {s : Fr} {ds : List AD} {H : Hp} {Q : Post}
end
end Go.V
end
section
set_option linter.unusedVariables false
set_option linter.unusedSimpArgs false
namespace Go.V
set_option linter.unusedSectionVars false
variable [Inhabited GivT]
/-- Two heaps, one beside the other. -/
def mrg (A E : Hp) : Hp := fun j => match E j with
 | some o => some o
 | none => A j
def Apart (A E : Hp) : Prop := ∀ j, E j ≠ none → A j = none
theorem mrg_none {A E : Hp} {j : Nat} (h : E j = none) : mrg A E j = A j := by simp [mrg, h]
theorem mrg_some {A E : Hp} {j : Nat} {o : Obj} (h : E j = some o) : mrg A E j = some o := by simp [mrg, h]
theorem mrg_fresh {A E : Hp} {j : Nat} (h : mrg A E j = none) : A j = none ∧ E j = none := by
 unfold mrg at h
 cases he : E j with
 | none => rw [he] at h; exact ⟨h, rfl⟩
 | some o => rw [he] at h; cases h
theorem mrg_setA {A E : Hp} {j : Nat} {o : Obj} (h : E j = none) : mrg (A.set j o) E = (mrg A E).set j o := by
 funext k
 simp only [mrg, Hp.set]
 by_cases e : k = j
 ·subst e; simp [h]
 ·simp [e]
theorem mrg_setE (A E : Hp) (j : Nat) (o : Obj) : mrg A (E.set j o) = (mrg A E).set j o := by
 funext k
 simp only [mrg, Hp.set]
 by_cases e : k = j
 ·subst e; simp
 ·simp [e]
theorem mrg_emp (A : Hp) : mrg A (fun _ => none) = A := rfl
theorem apart_emp (A : Hp) : Apart A fun _ => none := fun j h => absurd rfl h
theorem Apart.E {A E : Hp} (h : Apart A E) {j : Nat} (hj : A j ≠ none) : E j = none := Classical.byContradiction fun e => hj (h j e)
theorem Apart.setA {A E : Hp} (h : Apart A E) {j : Nat} (o : Obj) (hj : E j = none) : Apart (A.set j o) E := fun k hk => by
 have : k ≠ j := fun e => by subst e; exact hk hj
 rw [Hp.set_ne _ _ this]
 exact h k hk
theorem Apart.setE {A E : Hp} (h : Apart A E) {j : Nat} (o : Obj) (hj : A j = none) : Apart A (E.set j o) := fun k hk => by
 by_cases e : k = j
 ·subst e; exact hj
 ·rw [Hp.set_ne _ _ e] at hk; exact h k hk
theorem mrg_sub (A E : Hp) (h : Apart A E) : Go.V.HSub (mrg A E) A := fun j o hj => ⟨o, by
 rw [mrg_none (h.E (by rw [hj]; exact Option.some_ne_none _))]; exact hj, .refl _⟩
/-- Yields, one after another, each of which says true. -/
def IterE (P : Program) (y : AV) : List (List AV) → Hp → (Hp → Prop) → Prop
 | [], H, K => K H
 | x :: l, H, K => ∀ E, Apart H E → Tri P y x (mrg H E) fun r H' => r = .ret (.lit (.bool true)) ∧ ∃ H1, Apart H1 E ∧ H' = mrg H1 E ∧ IterE P y l H1 K
theorem iter_seqE {P : Program} {y : AV} {L : List (List AV)} {σ : Type} {inv : Nat → σ → Prop} {G : Nat → σ → Hp} {K : Hp → Prop} {B : Hp}
  (hG : ∀ i x, inv i x → ∀ j, (G i x) j = none ↔ B j = none)
  (h : ∀ i v x, L[i]? = some v → inv i x → ∀ E, Apart B E → Tri P y v (mrg (G i x) E) fun r H' => r = .ret (.lit (.bool true)) ∧ ∃ x', inv (i + 1) x' ∧ H' = mrg (G (i + 1) x') E)
  (hK : ∀ x, inv L.length x → K (G L.length x)) (x0 : σ) (h0 : inv 0 x0) : IterE P y L (G 0 x0) K := by
 have ap : ∀ i x, inv i x → ∀ E, Apart (G i x) E ↔ Apart B E := fun i x hx E => ⟨fun a j hj => (hG i x hx j).1 (a j hj), fun a j hj => (hG i x hx j).2 (a j hj)⟩
 have key : ∀ (l : List (List AV)) (j : Nat) (x : σ), L.drop j = l → j ≤ L.length → inv j x → IterE P y l (G j x) K := by
  intro l
  induction l with
  | nil =>
    intro j x hl hj hi
    have : j = L.length := by
     have := congrArg List.length hl
     simp at this; omega
    subst this; exact hK x hi
  | cons v l ih =>
    intro j x hl hj hi
    have hx : L[j]? = some v := by
     have := congrArg (fun q => q[0]?) hl
     simpa using this
    have hj' : j < L.length := (List.getElem?_eq_some_iff.1 hx).1
    intro E hE
    refine (h j v x hx hi E ((ap j x hi E).1 hE)).mono ?_
    rintro r H' ⟨rfl, x', hi', rfl⟩
    refine ⟨rfl, _, (ap (j + 1) x' hi' E).2 ((ap j x hi E).1 hE), rfl, ih (j + 1) x' ?_ hj' hi'⟩
    rw [← List.drop_drop, hl]; rfl
 exact key L 0 x0 rfl (Nat.zero_le _) h0
section
variable {P : Program} {m : Option Tmp → Bool} {n : Nat} {k : List It} {s : Fr} {ds : List AD} {H : Hp} {Q : Post}
/-- What is asked at a round's end. -/
def RndE (NX : Hp → Prop) (lid did : Nat) (lo : LoopState → Option Code → Obj) : Post := fun x s' ds' H' => match x with
 | .normal => (∃ st pd, H' lid = some (lo st pd)) ∧ ∃ nx, NX nx ∧ Go.V.HSub H' ((nx.set did (.raw (.deferred (some [])))).set lid (lo .busy none))
 | _ => False
theorem RndE_normal {NX : Hp → Prop} {s' : Fr} {ds' : List AD} {lid did : Nat} {lo : LoopState → Option Code → Obj} : RndE NX lid did lo .normal s' ds' H = ((∃ st pd, H lid = some (lo st pd)) ∧ ∃ nx, NX nx ∧ Go.V.HSub H ((nx.set did (.raw (.deferred (some [])))).set lid (lo .busy none))) := rfl
def AsgE (P : Program) (m : Option Tmp → Bool) (n : Nat) (l : Nat) (body : Code) (NX : Hp → Prop) (lid did : Nat) (lo : LoopState → Option Code → Obj) : Post := fun x s' ds' H' => match x with
 | .normal => H' lid = some (lo .ready none) ∧ VS (some l) P m n [.code body] s' ds' (H'.set lid (lo .busy none)) (RndE NX lid did lo)
 | _ => False
theorem AsgE_normal {l : Nat} {body : Code} {NX : Hp → Prop} {s' : Fr} {ds' : List AD} {lid did : Nat} {lo : LoopState → Option Code → Obj} : AsgE P m n l body NX lid did lo .normal s' ds' H = (H lid = some (lo .ready none) ∧ VS (some l) P m n [.code body] s' ds' (H.set lid (lo .busy none)) (RndE NX lid did lo)) := rfl
theorem vs_rangeE {g : Operand} {ps : Array Tmp} {assign body : Code} {f : FuncId} {fn : Func} {c : Code} {caps : List AV} {σ : Type} (L : List (List AV)) (inv : Nat → σ → Prop) (hp : Nat → σ → Hp) (x0 : σ)
  (hf : P.funcs[f]? = some fn) (hname : (fn.name == "runtime.NumGoroutine") = false) (hb : fn.body = some c)
  (hg : (opA s g).ok) (hgv : (opA s g).st = .func (.func f) [] caps) (hps : ∀ t ∈ ps.toList, t < n) (hpl : ∀ x ∈ L, x.length = ps.size)
  (hit : ∀ yf H K, IterE P (.func yf [] []) L H K → Tri P (.func (.func f) [] caps) [.func yf [] []] H fun r H' => (∃ v, r = .ret v) ∧ K H')
  (h0 : inv 0 x0) (hH : Go.V.HSub H (hp 0 x0)) (hfr : ∀ i x, inv i x → ∀ id, hp i x id = none ↔ hp 0 x0 id = none)
  (round : ∀ (E : Hp) i v x, L[i]? = some v → inv i x → Apart (hp 0 x0) E → ∀ lid did l (lo : LoopState → Option Code → Obj), hp 0 x0 lid = none → hp 0 x0 did = none → lid ≠ did → E lid = none → E did = none →
   VS (some l) P m n [.code assign] (putAll s ps.toList v) [] (((mrg (hp i x) E).set did (.raw (.deferred (some [])))).set lid (lo .ready none)) (AsgE P m n l body (fun nx => ∃ x', inv (i + 1) x' ∧ nx = mrg (hp (i + 1) x') E) lid did lo))
  (fin : ∀ x, inv L.length x → ∀ lid did (lo : LoopState → Option Code → Obj), hp 0 x0 lid = none → hp 0 x0 did = none → lid ≠ did →
   VS none P m n k s (.mark did :: ds) (((hp L.length x).set did (.raw (.deferred (some [])))).set lid (lo .exhausted none)) Q) :
  VS none P m n (.code (.rangeFunc g ps assign body) :: k) s ds H Q := by
 show WPS none P n (.rangeFunc g ps assign body) s ds H (TK none P m n k Q)
 refine wps_ent (Ent.weak (s' := s) (fun t => AV.Le.refl _) hH ?_)
 refine wps_range hg hgv hf hname hb fun lid did l h1 h2 h3 => ?_
 let lo : LoopState → Option Code → Obj := fun st pd => .loop l n s ps assign body st pd did
 let G : Nat → σ → Hp := fun i x => ((hp i x).set did (.raw (.deferred (some [])))).set lid (lo .ready none)
 let K : Hp → Prop := fun H' => ∃ st pend, H' lid = some (lo st pend) ∧ st ≠ .busy ∧ jumpQ pend fun x => VX none P m n k x s (.mark did :: ds) (H'.set lid (lo .exhausted pend)) Q
 refine ⟨_, hit (.yield l) _ K ?_, ?_⟩
 ·refine iter_seqE (G := G) (inv := inv) (B := G 0 x0) (fun i x hi q => ?_) (fun i v x hv hi E hE => ?_) (fun x hi => ⟨.ready, none, Hp.set_same _ _ _, by simp, ?_⟩) x0 h0
  ·simp only [G, Hp.set]
   by_cases e1 : q = lid
   ·simp [e1]
   ·rw [if_neg e1, if_neg e1]
    by_cases e2 : q = did
    ·simp [e2]
    ·rw [if_neg e2, if_neg e2]; exact hfr i x hi q
  ·have n1 : E lid = none := hE.E (by simp only [G, Hp.set_same]; exact Option.some_ne_none _)
   have n2 : E did = none := hE.E (by
    have : G 0 x0 did = some (.raw (.deferred (some []))) := by
     simp only [G]
     rw [Hp.set_ne _ _ (fun e => h3 e.symm), Hp.set_same]
    rw [this]; exact Option.some_ne_none _)
   have hE0 : Apart (hp 0 x0) E := fun j hj => by
    have := hE j hj
    simp only [G] at this
    rw [Hp.set_ne _ _ (fun e => by subst e; exact hj n1), Hp.set_ne _ _ (fun e => by subst e; exact hj n2)] at this
    exact this
   have ec : ∀ (A : Hp) X Y, mrg ((A.set did X).set lid Y) E = ((mrg A E).set did X).set lid Y := fun A X Y => by
    rw [mrg_setA n1, mrg_setA n2]
   have eG : mrg (G i x) E = ((mrg (hp i x) E).set did (.raw (.deferred (some [])))).set lid (lo .ready none) := ec _ _ _
   rw [eG]
   refine Tri.drop ?_
   refine tri_yield (lid := lid) (n := n) (s := s) (ps := ps) (assign := assign) (body := body) (did := did) (Hp.set_same _ _ _) (hpl v (List.mem_of_getElem? hv)) hps ?_
   refine (vcC_sound assign (round E i v x hv hi hE0 lid did l lo h1 h2 h3 n1 n2)).mono ?_
   intro x1 s1 ds1 H1 hq
   cases x1 with
   | normal =>
     obtain ⟨q1, q2⟩ := hq
     refine ⟨rfl, q1, (vcC_sound body q2).mono ?_⟩
     intro x2 s2 ds2 H2 hq2
     cases x2 with
     | normal =>
       obtain ⟨⟨st, pd, ho⟩, nx, ⟨x', hi', rfl⟩, hsub⟩ := hq2
       exact ⟨st, pd, ho, _, HSub.reset hsub, rfl, x', hi', (ec _ _ _).symm⟩
     | _ => exact hq2.elim
   | _ => exact hq.elim
  ·simp only [jumpQ, G, Hp.set_set]
   exact fin x hi lid did lo h1 h2 h3
 ·rintro r H' ⟨⟨v, rfl⟩, st, pend, ho, hst, hj⟩
  exact ⟨st, pend, ho, hst, hj⟩
end
end Go.V
end
section
set_option linter.unusedVariables false
namespace Go.V
set_option linter.unusedSectionVars false
variable [Inhabited GivT]
/-- A box frozen in what the slots hold. -/
inductive FzB (id st n : Nat) (f : Nat → List AV) : List (Nat × AV) → List (Nat × AV) → Prop
 | nil : FzB id st n f [] []
 | same {t : Nat} {v : AV} {l l' : List (Nat × AV)} : FzB id st n f l l' → FzB id st n f ((t, v) :: l) ((t, v) :: l')
 | hit {t i j : Nat} {l l' : List (Nat × AV)} : FzB id st n f l l' → FzB id st n f ((t, .ref id 0 st i j) :: l) ((t, .rptr n st f i j) :: l')
theorem FzB.frz {id st n : Nat} {f : Nat → List AV} {l l' : List (Nat × AV)} (h : FzB id st n f l l') : ∀ t, Fr.of l' t = Fr.of l t ∨ ∃ i j, Fr.of l t = .ref id 0 st i j ∧ Fr.of l' t = .rptr n st f i j := by
 intro t
 induction h with
 | nil => exact .inl rfl
 | same _ ih =>
   simp only [Fr.of]
   split
   ·exact .inl rfl
   ·exact ih
 | hit _ ih =>
   simp only [Fr.of]
   split
   ·exact .inr ⟨_, _, rfl, rfl⟩
   ·exact ih
theorem FzB.refl {id st n : Nat} {f : Nat → List AV} : ∀ l : List (Nat × AV), FzB id st n f l l
 | [] => .nil
 | (t, v) :: l => .same (FzB.refl l)
theorem vs_entF {r : Option Nat} {P : Program} {m : Option Tmp → Bool} {n : Nat} {k : List It} {s : Fr} {ds : List AD} {H : Hp} {Q : Post} {g : Operand} {ps : Array Tmp} {a b : Code}
  (h : Ent s ds H fun s ds H => VS r P m n (.code (.rangeFunc g ps a b) :: k) s ds H Q) : VS r P m n (.code (.rangeFunc g ps a b) :: k) s ds H Q :=
 (wps_ent h : WPS r P n (.rangeFunc g ps a b) s ds H (TK r P m n k Q))
end Go.V
end
section
set_option linter.unusedVariables false
namespace Go.V
set_option linter.unusedSectionVars false
variable [Inhabited GivT]
/-- What slots hold that point into the box. -/
inductive Rfb (id st st' : Nat) : List (Nat × AV) → List (Nat × AV) → Prop
 | nil : Rfb id st st' [] []
 | same {t : Nat} {v : AV} {l l' : List (Nat × AV)} : Rfb id st st' l l' → Rfb id st st' ((t, v) :: l) ((t, v) :: l')
 | hit {t : Nat} {l l' : List (Nat × AV)} : Rfb id st st' l l' → Rfb id st st' ((t, .ref id 0 st 0 0) :: l) ((t, .ref id 0 st' 0 0) :: l')
theorem Rfb.frz {id st st' : Nat} {l l' : List (Nat × AV)} (h : Rfb id st st' l l') : ∀ t, Fr.of l' t = Fr.of l t ∨ (Fr.of l t = .ref id 0 st 0 0 ∧ Fr.of l' t = .ref id 0 st' 0 0) := by
 intro t
 induction h with
 | nil => exact .inl rfl
 | same _ ih =>
   simp only [Fr.of]
   split
   ·exact .inl rfl
   ·exact ih
 | hit _ ih =>
   simp only [Fr.of]
   split
   ·exact .inr ⟨rfl, rfl⟩
   ·exact ih
theorem Rfb.refl {id st st' : Nat} : ∀ l : List (Nat × AV), Rfb id st st' l l
 | [] => .nil
 | (t, v) :: l => .same (Rfb.refl l)
theorem HSub_eqn {A B : Hp} (h : ∀ q, B q = none ∨ A q = B q) : Go.V.HSub A B := fun q o hq => by
 rcases h q with e | e
 ·rw [e] at hq; cases hq
 ·exact ⟨o, by rw [e]; exact hq, .refl _⟩
theorem HSub_put_le {X Y : Hp} {i : Nat} {o o' : Obj} (h : X i = some o') (hl : Obj.Le o' o) (hr : Go.V.HSub X Y) : Go.V.HSub X (Y.set i o) := fun j x hj => by
 by_cases e : j = i
 ·subst e; rw [Hp.set_same] at hj; cases hj; exact ⟨o', h, hl⟩
 ·rw [Hp.set_ne _ _ e] at hj; exact hr j x hj
end Go.V
end
section
set_option linter.unusedVariables false
set_option linter.unusedSimpArgs false
namespace Go.V
set_option linter.unusedSectionVars false
variable [Inhabited GivT]
def slcT (P : Program) (T : TypeId) : Bool := match P.underlying T with
 | some (.slice _) => true
 | _ => false
theorem slcT_spec {P : Program} {t : TypeId} (h : slcT P t = true) : ∃ e, P.underlying t = some (.slice e) := by
 unfold slcT at h
 split at h
 ·exact ⟨_, by assumption⟩
 ·cases h
theorem eqIn_sl {P : Program} (w : World) (d : Nat) (t : TypeId) (a : Option Addr) (n cap : Nat) {e : TypeId} (h : P.underlying t = some (.slice e)) : (Op.equalIn (d + 1) t (.slice a n cap) (.slice none 0 0)).run P w = .ok a.isNone w := by
 cases a <;> simp [Op.equalIn, run_underlying h]
section
variable {P : Program} {m : Option Tmp → Bool} {n id : Nat} {ops : Array Oper} {s : Fr} {ds : List AD} {H : Hp} {Q : Post}
theorem wps_region_nil (l1 l2 : List Oper) (o : Oper) (he : ops.toList = l1 ++ o :: l2) {T yt : TypeId} {x : Operand} {d : Nat} (ho : o.op = .binOp .eql T x (.const (.slice none 0 0)) yt) (hg : o.guard = none) (hd : o.dst = some d) (hdn : d < n) (hT : slcT P T = true)
  (h : VS none P m n [.ops ops.toList l1] s ds H fun e s' ds' H' => match e with
   | .normal => ∃ k st f, opA s' x = .rsl k st f ∧ ∀ b, (b = true → k = 0) → VS none P m n [.ops ops.toList l2] (put s' (some d) (.lit (.bool b))) ds' H' Q
   | e => Q e s' ds' H') : WPS none P n (.region id ops false) s ds H Q := by
 intro S a hn hH hF hD
 refine wpIn_region ?_
 have hget : ∀ i : Nat, ops[i]? = ops.toList[i]? := fun i => Array.getElem?_toList.symm
 have hsz : ops.size = l1.length + (1 + l2.length) := by
  have := congrArg List.length he
  simpa [Nat.add_comm] using this
 have hr : List.range ops.size = List.range l1.length ++ (l1.length :: (List.range l2.length).map (l1.length + 1 + ·)) := by
  rw [hsz, List.range_add, Nat.add_comm 1, List.range_succ_eq_map]
  simp only [List.map_cons, List.map_map, Nat.add_zero]
  congr 2
  apply List.map_congr_left
  intro i _
  simp [Function.comp]; omega
 rw [hr]
 refine wpOpsIn_append _ _ _ _ ?_
 have h1 := vcOps_sound (r := none) (P := P) (m := m) (n := n) (ops := ops) (.inl rfl) l1 (List.range l1.length) s ds H (fun o ho => by rw [he]; simp [ho]) (by
  apply List.ext_getElem
  ·simp
  ·intro i h1 h2
   simp at h1
   simp only [List.getElem_map, List.getElem_range, hget, he, List.getElem?_append_left h1, List.getElem?_eq_getElem h1]) h S a hn hH hF hD
 refine wpOpsIn_mono' (fun e a1 w1 q => ?_) _ _ _ h1
 obtain ⟨S1, x1, s1, ds1, H1, rfl, hle, hH1, hF1, hD1, hsz1, hx, hq⟩ := q
 cases e with
 | normal =>
   cases x1 <;> simp [XRel] at hx
   obtain ⟨k, st, f, hxv, h2⟩ := hq
   simp only [wpOpsIn, hget, he, List.getElem?_append_right (Nat.le_refl _), Nat.sub_self, List.getElem?_cons_zero, Region.wanted, hg, if_true]
   have rx : VRel S1 (.rsl k st f) (a1.eval x) := by
    have := opA_rel (x := x) hF1
    rw [hxv] at this; exact this
   obtain ⟨e, hu⟩ := slcT_spec hT
   obtain ⟨ad, ln, cap, ev, hk⟩ : ∃ ad ln cap, a1.eval x = .slice ad ln cap ∧ (ad.isNone = true → k = 0) := by
    generalize a1.eval x = cv at rx
    cases rx with
    | rsl0 => exact ⟨_, _, _, rfl, fun _ => rfl⟩
    | rsl => exact ⟨_, _, _, rfl, fun h => by cases h⟩
   have ey : a1.eval (.const (.slice none 0 0)) = .slice none 0 0 := rfl
   have hrun : (execOp a1.eval o).run P S1.w = .ok (.value (.bool ad.isNone)) S1.w := by
    have hgd : ∀ (op : BinOp) (w : World), (eqGuard op T x (.const (.slice none 0 0)) (.slice ad ln cap) (.slice none 0 0)).run P w = .ok () w := by
     intro op w; unfold eqGuard; cases op <;> simp
    simp only [execOp, ho, ev, ey, Sem.run_bind, hgd, Result.andThen_ok]
    simp [binOp, Op.equal, Op.maxDepth, eqIn_sl _ 9999 T _ _ _ hu]
   have hs : StepOk none P o S1 a1 (fun v ds' H' => v = .lit (.bool ad.isNone) ∧ ds' = ds1 ∧ H' = H1) (fun _ _ => False) :=
    stepOk_value (fun c e => by rw [ho] at e; cases e) hrun (Le.refl S1) hH1 (.lit _) hD1 ⟨rfl, rfl, rfl⟩
   refine hs _ _ ?_ (fun _ _ _ _ _ _ _ hf => hf.elim)
   rintro S' cv v ds' df H' hle' hH' hv hD' ⟨rfl, rfl, rfl⟩
   have h3 := vcOps_sound (r := none) (P := P) (m := m) (n := n) (ops := ops) (Q := Q) (.inl rfl) l2 ((List.range l2.length).map (l1.length + 1 + ·)) _ _ _ (fun o ho => by rw [he]; simp [ho]) (by
    apply List.ext_getElem
    ·simp
    ·intro i h1 h2
     simp at h1
     simp only [List.getElem_map, List.getElem_range, hget, he]
     rw [List.getElem?_append_right (by omega), show l1.length + 1 + i - l1.length = i + 1 by omega, List.getElem?_cons_succ, List.getElem?_eq_getElem h1]) (h2 ad.isNone hk) S' ({ a1 with defers := df }.put o.dst cv) (by rw [put_size]; exact hsz1) hH' (by
     have := (hF1.mono hle').put (d := some d) (n := n) (by exact hdn) hsz1 hv df
     rw [hd]; exact this) (by rw [put_defers]; exact hD')
   exact wpOpsIn_mono' (fun e a w q => Lift.trans (hle.trans hle') q) _ _ _ h3
 | _ => cases x1 <;> simp [XRel] at hx <;> exact ⟨S1, _, s1, ds1, H1, rfl, hle, hH1, hF1, hD1, hsz1, by simp [XRel, hx], hq⟩
theorem wps_region_nilI (i : Nat) {o : Oper} (he : ops.toList[i]? = some o) {T yt : TypeId} {x : Operand} {d : Nat} (ho : o.op = .binOp .eql T x (.const (.slice none 0 0)) yt) (hg : o.guard = none) (hd : o.dst = some d) (hdn : d < n) (hT : slcT P T = true)
  (h : VS none P m n [.ops ops.toList (ops.toList.take i)] s ds H fun e s' ds' H' => match e with
   | .normal => ∃ k st f, opA s' x = .rsl k st f ∧ ∀ b, (b = true → k = 0) → VS none P m n [.ops ops.toList (ops.toList.drop (i + 1))] (put s' (some d) (.lit (.bool b))) ds' H' Q
   | e => Q e s' ds' H') : WPS none P n (.region id ops false) s ds H Q := by
 refine wps_region_nil _ _ o ?_ ho hg hd hdn hT h
 obtain ⟨hi, rfl⟩ := List.getElem?_eq_some_iff.1 he
 rw [← List.drop_eq_getElem_cons hi, List.take_append_drop]
end
end Go.V
end
section
set_option linter.unusedVariables false
set_option linter.unusedSimpArgs false
set_option maxHeartbeats 4000000
set_option maxRecDepth 100000
namespace Go.Proofs.YtclkjifgipcamaaGreat
open Go.V
instance : Inhabited GivT := ⟨⟨[]⟩⟩
structure Dr where
 lim : List Int
 be : List (Int × Int)
 bl : List (Int × Int)
def prF (l : List (Int × Int)) : Nat → List AV := fun i => [i64 (l.getD i (0, 0)).1, i64 (l.getD i (0, 0)).2]
theorem prF_at (l : List (Int × Int)) (i : Nat) : prF l i = [i64 (l.getD i (0, 0)).1, i64 (l.getD i (0, 0)).2] := rfl
abbrev prAV (l : List (Int × Int)) : AV := .rsl l.length 2 (prF l)
abbrev Dr.cs (d : Dr) : List AV := [intsAV d.lim, prAV d.be, prAV d.bl]
abbrev Dr.av (d : Dr) : AV := .agg d.cs
abbrev dptr (d : Dr) : AV := .rptr 1 3 (fun _ => d.cs) 0 0
/-- Who lies beside a seam. -/
def nb1 (i : Int) (p : Int × Int) : List Int := if p.1 = i then [p.2] else if p.2 = i then [p.1] else []
def nbL (be : List (Int × Int)) (i : Int) : List Int := be.flatMap (nb1 i)
structure OkD (d : Dr) : Prop where
 n1 : 1 ≤ d.lim.length
 n6 : d.lim.length ≤ 6
 nb : d.bl.length = d.lim.length
 p : ∀ i, i < d.be.length → 0 ≤ (d.be.getD i (0, 0)).1 ∧ (d.be.getD i (0, 0)).1 < (d.be.getD i (0, 0)).2 ∧ (d.be.getD i (0, 0)).2 < d.lim.length
 m : d.be.length ≤ 40
 q : d.be.Nodup
 l : ∀ i, i < d.lim.length → ((nbL d.be i).length : Int) + 1 ≤ d.lim.getD i 0 ∧ d.lim.getD i 0 ≤ 6
 b : ∀ i, i < d.lim.length → 0 ≤ (d.bl.getD i (0, 0)).1 ∧ (d.bl.getD i (0, 0)).1 ≤ (d.bl.getD i (0, 0)).2 ∧ (d.bl.getD i (0, 0)).2 ≤ 12 ∧ (d.bl.getD i (0, 0)).2 - (d.bl.getD i (0, 0)).1 ≤ 2
/-- A drive that is looked at. -/
abbrev hC (d : Dr) (k : Nat) : List AV := [intsAV d.lim, prAV d.be, prAV d.bl, intsAV (nbL (d.be.take k) 0), intsAV (nbL (d.be.take k) 1), intsAV (nbL (d.be.take k) 2), intsAV (nbL (d.be.take k) 3), intsAV (nbL (d.be.take k) 4), intsAV (nbL (d.be.take k) 5)]
abbrev hP (d : Dr) : AV := .rptr 1 9 (fun _ => hC d d.be.length) 0 0
/-- Blows of all seams. -/
def blF (b : Nat → Int) : Nat → List AV := fun i => [i64 (b i)]
theorem blF_at (b : Nat → Int) (i : Nat) : blF b i = [i64 (b i)] := rfl
abbrev blAV (b : Nat → Int) : AV := .arr 6 1 (blF b)

abbrev refD (e : Int) : AV := .iface 115 (.agg [i64 e])
theorem dwithin_tri (n lo hi : Int) (H : Hp) : PTri Tryz.prog (fnA 63) [i64 n, i64 lo, i64 hi] H (boo (decide (lo ≤ n) && decide (n ≤ hi))) := by
 refine tri_v0 (fun _ => false) Tryz.func63 (by kernel_rfl) rfl (by simp only [List.length_append, List.length_cons, List.length_nil, Tryz.ntmps63]; decide) ?_
 simp only [vsAll, binA, binLitA, intA, pickA, opA, guardV, dstOk, nilSliceOp, resA, argFr, retA.eq_1, Nat.reduceLT, Nat.reduceEqDiff, ↓reduceIte, reduceCtorEq, implies_true, eq_self, Tryz.ntmps63, Tryz.results63]
theorem dwant_tri (b : Bool) (e : Int) (H : Hp) : Tri Tryz.prog (fnA 59) [boo b, i64 e] H fun r H' => H' = H ∧ r = if b then .ret (.tuple []) else .pan (refD e) := by
 refine tri_v0 (fun _ => false) Tryz.func59 (by kernel_rfl) rfl (by simp only [List.length_append, List.length_cons, List.length_nil, Tryz.ntmps59]; decide) ?_
 simp only [vsAll, unA, opA, dstOk, argFr, Nat.reduceLT, ↓reduceIte, eq_self, Tryz.ntmps59]
 refine condV (fun hc => ?_) (fun hc => ?_)
 ·simp only [Bool.not_eq_true'] at hc
  subst hc
  simp only [vsAll, cellA, cellsA, fillA, okParts, ifaceA, partsA, partsOk, opA, dstOk, panA, argFr, Nat.reduceLT, Nat.reduceEqDiff, ↓reduceIte, eq_self, wtAll]
 ·simp only [Bool.not_eq_false'] at hc
  subst hc
  simp only [vsAll, resA, retA.eq_2, ↓reduceIte, eq_self, Tryz.results59]
theorem dwant_call {b : Bool} {e : Int} {H : Hp} {K : AV → Hp → Prop} {Kp : AV → Hp → Prop} (h1 : b = true → K (.tuple []) H) (h2 : b = false → Kp (refD e) H) :
  CallK Tryz.prog (fnA 59) [boo b, i64 e] H K Kp := by
 refine ⟨_, dwant_tri b e H, ?_⟩
 rintro r H' ⟨rfl, rfl⟩
 cases b
 ·exact h2 rfl
 ·exact h1 rfl
theorem isSeam_tri (d : Dr) (n : Int) (H : Hp) (hn : d.lim.length ≤ 40) : PTri Tryz.prog (fnA 58) [d.av, i64 n] H (boo (decide (0 ≤ n) && decide (n ≤ (d.lim.length : Int) - 1))) := by
 refine tri_v0 (fun _ => false) Tryz.func58 (by kernel_rfl) rfl (by simp only [List.length_append, List.length_cons, List.length_nil, Tryz.ntmps58]; decide) ?_
 simp only [vsAll, binA, binLitA, intA, loadA, loadRow, partA, partOk, fieldAddrA, lenA, boxA, boxZ, okAll, stAll, opsA, opA, dstOk, nilSliceOp, argFr, Nat.reduceAdd, Nat.reduceLT, Nat.reduceEqDiff, ↓reduceIte, eq_self, wtAll, Tryz.ntmps58]
 refine ⟨by simp only [InR_i64]; omega, callK_pure (dwithin_tri _ _ _ _) ?_⟩
 simp only [vsAll, opA, dstOk, nilSliceOp, resA, retA.eq_1, Nat.reduceLT, ↓reduceIte, eq_self, Tryz.results58]
theorem seams_tri (d : Dr) (H : Hp) : PTri Tryz.prog (fnA 31) [hP d] H (i64 d.lim.length) := by
 refine tri_v0 (fun _ => false) Tryz.func31 (by kernel_rfl) rfl (by simp only [List.length_append, List.length_cons, List.length_nil, Tryz.ntmps31]; decide) ?_
 simp only [vsAll, loadA, loadRow, partA, partOk, fieldAddrA, lenA, nilCheckA, opA, dstOk, nilSliceOp, resA, argFr, retA.eq_1, Nat.reduceLT, ↓reduceIte, reduceCtorEq, eq_self, wtAll, Tryz.ntmps31, Tryz.results31]
theorem upd_bl (b : Nat → Int) (s : Nat) (k : Int) (hs : s < 6) : ∀ i, i < 6 → updF 6 s (blF b) [i64 (b s + k)] i = blF (upZ b s k) i := fun i hi => by
 rw [updF_at hs hi]
 unfold blF upZ
 by_cases e : i = s
 ·subst e; rw [if_pos rfl, if_pos rfl]
 ·rw [if_neg e, if_neg e]
theorem ret_leA {P : Program} {fv : AV} {args : List AV} {H : Hp} {v v' : AV} (h : PTri P fv args H v) (hle : AV.Le v v') : PTri P fv args H v' := by
 intro S vf vs hH hvf ha
 obtain ⟨nx, h1, h2⟩ := h S vf vs hH hvf ha
 have ho : ∀ e w, Out S (fun r H' => r = .ret v ∧ H' = H) e w → Out S (fun r H' => r = .ret v' ∧ H' = H) e w := by
  rintro e w ⟨S', r, H', hw, hl, hH', hrr, rfl, rfl⟩
  refine ⟨S', .ret v', H', hw, hl, hH', ?_, rfl, rfl⟩
  cases e with
  | returned cv => exact hle S' cv hrr
  | panicked ch => exact hrr.elim
  | outgrown => exact hrr.elim
 refine ⟨nx, h1, ?_⟩
 cases nx <;> simp only [NextOk] at h2 ⊢
 ·exact Calls.mono h2 ho
 ·exact h2.mono ho
theorem with_tri (b : Nat → Int) (s k : Int) (H : Hp) (hs : 0 ≤ s ∧ s < 6) (hb : -10000 ≤ b s.toNat ∧ b s.toNat ≤ 10000) (hk : -10000 ≤ k ∧ k ≤ 10000) : PTri Tryz.prog (fnA 61) [blAV b, i64 s, i64 k] H (blAV (upZ b s.toNat k)) := by
 obtain ⟨s, rfl⟩ : ∃ q : Nat, s = (q : Int) := ⟨s.toNat, by omega⟩
 simp only [Int.toNat_natCast] at hb ⊢
 refine ret_leA (v := .arr 6 1 (updF 6 s (blF b) [i64 (b s + k)])) ?_ (.arr (upd_bl b s k (by omega)))
 refine Tri.drop ?_
 refine tri_v0 (mset [3, 6]) Tryz.func61 (by kernel_rfl) rfl (by simp only [List.length_append, List.length_cons, List.length_nil, Tryz.ntmps61]; decide) ?_
 simp only [vsAll, binA, binLitA, intA, aggA, aggV, boolA, nilA2, loadA, loadRow, partA, partOk, indexAddrA, cellA, cellsA, opA, allocA, boxMutA, newCells, okCells, storeObj, dstOk, resA, argFr, retA.eq_1, Nat.reduceLT, Nat.reduceEqDiff, Nat.reduceBEq, ↓reduceIte, reduceCtorEq, implies_true, eq_self, wtAll, Tryz.ntmps61, Tryz.results61]
 intro i3 hh_i3; (try simp only [Hp.set_none, ite_none] at hh_i3); intro i6 hh_i6; (try simp only [ite_none] at hh_i6)
 simp only [vsAll, Nat.reduceMul, Nat.reduceLT, ↓reduceIte, eq_self, hh_i6, blF_at]
 refine ⟨⟨by ((try clear hh_i3 hh_i6); omega), by ((try clear hh_i3 hh_i6); omega)⟩, by ((try clear hh_i3 hh_i6); omega), by simp only [InR_i64]; ((try clear hh_i3 hh_i6); omega), ⟨by ((try clear hh_i3 hh_i6); omega), by ((try clear hh_i3 hh_i6); omega)⟩, by ((try clear hh_i3 hh_i6); omega), fun q hq => ?_, ?_⟩
 ·rw [upd_bl b s k (by ((try clear hh_i3 hh_i6); omega)) q hq]
  exact ⟨rfl, trivial⟩
 exact dropR_pure rfl (by (repeat (first | exact HSub_rfl | refine HSub_put_eq (by simp only [vsAll, binA, binLitA, intA, aggA, aggV, boolA, nilA2, isConst, unA, loadA, loadRow, partA, partOk, fieldAddrA, indexAddrA, indexA, fieldA, extractA, lenA, nilCheckA, boxA, boxZ, cellA, cellsA, fillA, okParts, buildSliceA, buildMutA, makeSliceA, partIdx, elemsA, lensA, ifaceA, convA, mmA, pickA, okAll, stAll, opsA, partsA, partsOk, opA, allocA, boxMutA, newCells, okCells, storeObj, appendA, guardV, taA, nM, mapUpA, rangeA, nextA, entryA, lookA, sliceA, sliceM, sliceS, boundsA, opO, okO, copyA, dstOk, nilA, quietOk, nilSliceOp, deferV, panA, resA, argFr, retA.eq_1, retA.eq_2, Nat.reduceAdd, Nat.reduceSub, Nat.reduceMul, Nat.reduceLT, Nat.reduceLeDiff, Nat.reduceEqDiff, Nat.reduceBEq, Int.reduceAdd, Int.reduceSub, Int.reduceMul, Int.reduceNeg, Int.reduceLE, Int.reduceLT, Int.reduceEq, Int.reduceNe, Int.reduceToNat, ↓reduceIte, reduceCtorEq, implies_true, forall_const, eq_self, ne_eq, wtAll, Tryz.ntmps61, Tryz.results61, hh_i3, hh_i6]) ?_ | refine HSub_drop2 (by simp only [eq_self, hh_i3, hh_i6]) ?_ | refine HSub_keep_eq (by simp only [vsAll, binA, binLitA, intA, aggA, aggV, boolA, nilA2, isConst, unA, loadA, loadRow, partA, partOk, fieldAddrA, indexAddrA, indexA, fieldA, extractA, lenA, nilCheckA, boxA, boxZ, cellA, cellsA, fillA, okParts, buildSliceA, buildMutA, makeSliceA, partIdx, elemsA, lensA, ifaceA, convA, mmA, pickA, okAll, stAll, opsA, partsA, partsOk, opA, allocA, boxMutA, newCells, okCells, storeObj, appendA, guardV, taA, nM, mapUpA, rangeA, nextA, entryA, lookA, sliceA, sliceM, sliceS, boundsA, opO, okO, copyA, dstOk, nilA, quietOk, nilSliceOp, deferV, panA, resA, argFr, retA.eq_1, retA.eq_2, Nat.reduceAdd, Nat.reduceSub, Nat.reduceMul, Nat.reduceLT, Nat.reduceLeDiff, Nat.reduceEqDiff, Nat.reduceBEq, Int.reduceAdd, Int.reduceSub, Int.reduceMul, Int.reduceNeg, Int.reduceLE, Int.reduceLT, Int.reduceEq, Int.reduceNe, Int.reduceToNat, ↓reduceIte, reduceCtorEq, implies_true, forall_const, eq_self, ne_eq, wtAll, Tryz.ntmps61, Tryz.results61, hh_i3, hh_i6]) ?_)))
theorem can_tri (d : Dr) (b : Nat → Int) (s : Int) (H : Hp) (hs : 0 ≤ s ∧ s < d.lim.length) (hn : d.lim.length ≤ 6) : PTri Tryz.prog (fnA 60) [hP d, blAV b, i64 s] H (boo (decide (b s.toNat ≥ d.lim.getD s.toNat 0))) := by
 obtain ⟨s, rfl⟩ : ∃ q : Nat, s = (q : Int) := ⟨s.toNat, by omega⟩
 refine tri_v0 (fun _ => false) Tryz.func60 (by kernel_rfl) rfl (by simp only [List.length_append, List.length_cons, List.length_nil, Tryz.ntmps60]; decide) ?_
 simp only [vsAll, boxA, boxZ, opA, dstOk, nilSliceOp, argFr, Nat.reduceLT, eq_self, wtAll, Tryz.ntmps60]
 refine vs_draw 13 (by decide +kernel) ?_
 simp only [vsAll, binA, binLitA, intA, loadA, loadRow, partA, partOk, fieldAddrA, indexAddrA, nilCheckA, opA, dstOk, resA, argFr, retA.eq_1, Nat.reduceLT, Nat.reduceEqDiff, ↓reduceIte, reduceCtorEq, eq_self, wtAll, Tryz.results60, blF_at, intF_at]
 refine ⟨⟨by omega, by omega⟩, by omega, ⟨by omega, by omega⟩, by omega⟩
theorem blowsOf_tri (l : List Int) (H : Hp) (hl : l.length ≤ 6) : PTri Tryz.prog (fnA 29) [intsAV l] H (blAV fun i => l.getD i 0) := by
 refine ret_leA (v := .arr 6 1 (cpF 0 (min l.length 6) (fun _ => [i64 0]) 0 (intF l))) ?_ (.arr fun i hi => ?_)
 rotate_left
 ·unfold cpF
  by_cases h : i < l.length
  ·rw [if_pos ⟨Nat.zero_le _, by omega⟩]; simp [intF_at, blF]
  ·rw [if_neg (by omega)]; simp [blF, List.getD_eq_getElem?_getD, show l.length ≤ i by omega]
 refine Tri.drop ?_
 refine tri_v0 (mset [2]) Tryz.func29 (by kernel_rfl) rfl (by simp only [List.length_append, List.length_cons, List.length_nil, Tryz.ntmps29]; decide) ?_
 simp only [vsAll, loadA, loadRow, opA, allocA, storeObj, sliceA, boundsA, opO, okO, copyA, dstOk, resA, argFr, retA.eq_1, Nat.reduceSub, Nat.reduceMul, Nat.reduceLT, Nat.reduceEqDiff, Nat.reduceBEq, ↓reduceIte, reduceCtorEq, eq_self, wtAll, Tryz.ntmps29, Tryz.results29]
 intro i2 hh_i2; (try simp only [Hp.set_none, ite_none] at hh_i2)
 refine ⟨fun i hi => ⟨rfl, trivial⟩, fun i hi => ?_, ?_⟩
 ·unfold cpF
  split
  ·exact ⟨rfl, trivial⟩
  ·exact ⟨rfl, trivial⟩
 exact dropR_pure rfl (by (repeat (first | exact HSub_rfl | refine HSub_put_eq (by simp only [vsAll, binA, binLitA, intA, aggA, aggV, boolA, nilA2, isConst, unA, loadA, loadRow, partA, partOk, fieldAddrA, indexAddrA, indexA, fieldA, extractA, lenA, nilCheckA, boxA, boxZ, cellA, cellsA, fillA, okParts, buildSliceA, buildMutA, makeSliceA, partIdx, elemsA, lensA, ifaceA, convA, mmA, pickA, okAll, stAll, opsA, partsA, partsOk, opA, allocA, boxMutA, newCells, okCells, storeObj, appendA, guardV, taA, nM, mapUpA, rangeA, nextA, entryA, lookA, sliceA, sliceM, sliceS, boundsA, opO, okO, copyA, dstOk, nilA, quietOk, nilSliceOp, deferV, panA, resA, argFr, retA.eq_1, retA.eq_2, Nat.reduceAdd, Nat.reduceSub, Nat.reduceMul, Nat.reduceLT, Nat.reduceLeDiff, Nat.reduceEqDiff, Nat.reduceBEq, Int.reduceAdd, Int.reduceSub, Int.reduceMul, Int.reduceNeg, Int.reduceLE, Int.reduceLT, Int.reduceEq, Int.reduceNe, Int.reduceToNat, ↓reduceIte, reduceCtorEq, implies_true, forall_const, eq_self, ne_eq, wtAll, Tryz.ntmps29, Tryz.results29, hh_i2]) ?_ | refine HSub_drop2 (by simp only [eq_self, hh_i2]) ?_ | refine HSub_keep_eq (by simp only [vsAll, binA, binLitA, intA, aggA, aggV, boolA, nilA2, isConst, unA, loadA, loadRow, partA, partOk, fieldAddrA, indexAddrA, indexA, fieldA, extractA, lenA, nilCheckA, boxA, boxZ, cellA, cellsA, fillA, okParts, buildSliceA, buildMutA, makeSliceA, partIdx, elemsA, lensA, ifaceA, convA, mmA, pickA, okAll, stAll, opsA, partsA, partsOk, opA, allocA, boxMutA, newCells, okCells, storeObj, appendA, guardV, taA, nM, mapUpA, rangeA, nextA, entryA, lookA, sliceA, sliceM, sliceS, boundsA, opO, okO, copyA, dstOk, nilA, quietOk, nilSliceOp, deferV, panA, resA, argFr, retA.eq_1, retA.eq_2, Nat.reduceAdd, Nat.reduceSub, Nat.reduceMul, Nat.reduceLT, Nat.reduceLeDiff, Nat.reduceEqDiff, Nat.reduceBEq, Int.reduceAdd, Int.reduceSub, Int.reduceMul, Int.reduceNeg, Int.reduceLE, Int.reduceLT, Int.reduceEq, Int.reduceNe, Int.reduceToNat, ↓reduceIte, reduceCtorEq, implies_true, forall_const, eq_self, ne_eq, wtAll, Tryz.ntmps29, Tryz.results29, hh_i2]) ?_)))
def firstI (g : Int → Bool) (l : List Int) : Option Nat := (List.range l.length).find? fun i => g (l.getD i 0)
theorem first_at {g : Int → Bool} {l : List Int} {i : Nat} (hi : i < l.length) (hb : ∀ j, j < i → g (l.getD j 0) = false) (hg : g (l.getD i 0) = true) : firstI g l = some i := by
 unfold firstI
 rw [List.find?_range_eq_some]
 exact ⟨hg, List.mem_range.2 hi, fun j hj => by rw [hb j hj]; rfl⟩
theorem first_none {g : Int → Bool} {l : List Int} (hb : ∀ j, j < l.length → g (l.getD j 0) = false) : firstI g l = none := by
 unfold firstI
 rw [List.find?_range_eq_none]
 exact fun j hj => by rw [hb j hj]; rfl
def firstZ (g : Int → Bool) (l : List Int) : Int := match firstI g l with
 | some i => (i : Int)
 | none => -1
theorem indexI_tri (g : Int → Bool) (l : List Int) (fv : AV) (H : Hp) (hl : l.length < 2 ^ 40) (hok : fv.ok) (hst : fv.st = fv) (h : ∀ i, i < l.length → PTri Tryz.prog fv [i64 (l.getD i 0)] H (boo (g (l.getD i 0)))) : PTri Tryz.prog (fnA 83) [intsAV l, fv] H (i64 (firstZ g l)) := by
 refine tri_v0 (fun _ => false) Tryz.func83 (by kernel_rfl) rfl (by simp only [List.length_append, List.length_cons, List.length_nil, Tryz.ntmps83]; decide) ?_
 simp only [vsAll, lenA, opA, dstOk, nilSliceOp, argFr, Nat.reduceLT, Int.reduceNeg, ↓reduceIte, reduceCtorEq, eq_self, wtAll, Tryz.ntmps83]
 refine vs_loop (σ := Nat) (fun i => i ≤ l.length ∧ ∀ j, j < i → g (l.getD j 0) = false) (fun i => [(0, intsAV l), (1, fv), (7, i64 l.length), (8, i64 i)]) (fun _ => H) (fun i => l.length - i) 0 ⟨Nat.zero_le _, fun j hj => absurd hj (Nat.not_lt_zero j)⟩ ?_ HSub_rfl fun i hi => ?_
 ·simp only [vsAll, argFr, Nat.reduceEqDiff, ↓reduceIte, reduceCtorEq, eq_self, Int.natCast_zero]
 ·obtain ⟨hi, hb⟩ := hi
  simp only [vsAll, binA, binLitA, intA, opA, dstOk, Nat.reduceLT, Nat.reduceEqDiff, Int.reduceNeg, ↓reduceIte, reduceCtorEq, eq_self]
  refine condD (fun hd => ?_) (fun hd => ?_)
  ·have hil : i < l.length := by omega
   simp only [vsAll, loadA, loadRow, partA, partOk, indexAddrA, okAll, stAll, opsA, opA, dstOk, nilSliceOp, Nat.reduceLT, Nat.reduceEqDiff, Int.reduceNeg, ↓reduceIte, reduceCtorEq, eq_self, wtAll, intF_at, hok, hst]
   refine ⟨⟨by omega, by omega⟩, hil, callK_pure (h i hil) ?_⟩
   simp only [vsAll, opA, Int.reduceNeg, ↓reduceIte, eq_self]
   refine condV (fun hc => ?_) (fun hc => ?_)
   ·simp only [vsAll, opA, dstOk, nilSliceOp, resA, retA.eq_1, Nat.reduceLT, Nat.reduceEqDiff, Int.reduceNeg, ↓reduceIte, eq_self, Tryz.results83, firstZ, first_at hil hb hc]
   ·simp only [vsAll, binA, binLitA, intA, opA, dstOk, Nat.reduceLT, Nat.reduceEqDiff, Int.reduceNeg, ↓reduceIte, reduceCtorEq, eq_self]
    refine ⟨by simp only [InR_i64]; omega, loop_next (i + 1) ⟨hil, fun j hj => ?_⟩ (by omega) ?_ HSub_rfl⟩
    ·by_cases e : j = i
     ·subst e; exact hc
     ·exact hb j (by omega)
    ·simp only [vsAll, Nat.reduceEqDiff, ↓reduceIte, reduceCtorEq, eq_self, Int.natCast_add, Int.natCast_one]
  ·have ei : i = l.length := by omega
   subst ei
   simp only [vsAll, opA, dstOk, nilSliceOp, resA, retA.eq_1, Nat.reduceLT, Int.reduceNeg, ↓reduceIte, eq_self, Tryz.results83, firstZ, first_none hb]
theorem contI_tri (g : Int → Bool) (l : List Int) (fv : AV) (H : Hp) (hl : l.length < 2 ^ 40) (hok : fv.ok) (hst : fv.st = fv) (h : ∀ i, i < l.length → PTri Tryz.prog fv [i64 (l.getD i 0)] H (boo (g (l.getD i 0)))) (hn : ∀ i, i < l.length → g (l.getD i 0) = false) : PTri Tryz.prog (fnA 66) [intsAV l, fv] H (boo false) := by
 refine tri_v0 (fun _ => false) Tryz.func66 (by kernel_rfl) rfl (by simp only [List.length_append, List.length_cons, List.length_nil, Tryz.ntmps66]; decide) ?_
 simp only [vsAll, okAll, stAll, opsA, opA, dstOk, nilSliceOp, argFr, Nat.reduceLT, Nat.reduceEqDiff, ↓reduceIte, reduceCtorEq, eq_self, Tryz.ntmps66, hok, hst]
 refine callK_pure (indexI_tri g l fv _ hl hok hst h) ?_
 simp only [vsAll, binA, binLitA, intA, opA, dstOk, nilSliceOp, resA, retA.eq_1, Nat.reduceLT, Int.reduceNeg, Int.reduceLE, ↓reduceIte, eq_self, Tryz.results66, firstZ, first_none hn]
theorem bad_tri (n : Int) (H : Hp) : PTri Tryz.prog (fnA 65) [i64 n] H (boo (!(decide (0 ≤ n) && decide (n ≤ 52)))) := by
 refine tri_v0 (fun _ => false) Tryz.func65 (by kernel_rfl) rfl (by simp only [List.length_append, List.length_cons, List.length_nil, Tryz.ntmps65]; decide) ?_
 simp only [vsAll, okAll, stAll, opsA, opA, dstOk, nilSliceOp, argFr, Nat.reduceLT, ↓reduceIte, reduceCtorEq, eq_self, Tryz.ntmps65]
 refine callK_pure (dwithin_tri _ _ _ _) ?_
 simp only [vsAll, unA, opA, dstOk, nilSliceOp, resA, retA.eq_1, Nat.reduceLT, ↓reduceIte, eq_self, Tryz.results65]
theorem areBlows_tri (d : Dr) (l : List Int) (H : Hp) (hl : l.length = d.lim.length) (hn : d.lim.length ≤ 6) (hb : ∀ i, i < l.length → 0 ≤ l.getD i 0 ∧ l.getD i 0 ≤ 52) : PTri Tryz.prog (fnA 26) [d.av, intsAV l] H (boo true) := by
 refine tri_v0 (fun _ => false) Tryz.func26 (by kernel_rfl) rfl (by simp only [List.length_append, List.length_cons, List.length_nil, Tryz.ntmps26]; decide) ?_
 have e : decide ((l.length : Int) = d.lim.length) = true := decide_eq_true (by omega)
 simp only [vsAll, binA, binLitA, intA, loadA, loadRow, partA, partOk, fieldAddrA, lenA, boxA, boxZ, opA, guardV, dstOk, nilSliceOp, argFr, Nat.reduceAdd, Nat.reduceLT, Nat.reduceEqDiff, ↓reduceIte, eq_self, wtAll, Tryz.ntmps26, e]
 refine gcall (boo false) (fun hg => ⟨by simp only [vsAll, opA], by simp only [vsAll, okAll, opsA, opA, Nat.reduceEqDiff, ↓reduceIte, eq_self], contI_tri (fun n => !(decide (0 ≤ n) && decide (n ≤ 52))) l _ _ (by omega) trivial rfl (fun i hi => bad_tri _ _) (fun i hi => ?_)⟩) ?_
 ·have := hb i hi
  rw [decide_eq_true this.1, decide_eq_true this.2]; rfl
 simp only [vsAll, unA, pickA, opA, guardV, dstOk, nilSliceOp, resA, retA.eq_1, Nat.reduceLT, Nat.reduceEqDiff, ↓reduceIte, implies_true, eq_self, Tryz.results26]
def cloneR (l : List Int) (H : Hp) : Res → Hp → Prop := fun r H' => ∃ id, H id = none ∧ r = .ret (.sl id 1 l.length) ∧ H' = H.set id (.row 1 l.length (intF l))
theorem app0 (n : Nat) (f g : Nat → List AV) (q : Nat) (hq : q < n) : appF 0 n f g q = g q := by
 unfold appF
 split
 ·have : q = 0 := by omega
  subst this; rfl
 ·simp
theorem clone_tri (l : List Int) (H : Hp) (hl : l.length < 2 ^ 40) : Tri Tryz.prog (fnA 30) [intsAV l] H (cloneR l H) := by
 refine Tri.drop ?_
 refine tri_wm Tryz.func30 (by kernel_rfl) rfl (by simp only [List.length_append, List.length_cons, List.length_nil, Tryz.ntmps30]; decide) ?_
 refine wps_cutG (m := fun _ => false) (σ := Unit) (fun _ => True) (fun _ => [(0, intsAV l)]) (fun _ => H) (fun _ => []) ?_ fun _ _ => ?_
 ·simp only [vsAll, opA, dstOk, nilSliceOp, Nat.reduceLT, eq_self, Tryz.ntmps30]
  exact cutG_of () trivial (by simp only [vsAll, argFr, ↓reduceIte, reduceCtorEq]) rfl HSub_rfl
 ·refine wps_seq ?_
  refine wps_seq ?_
  refine wps_region_nilI (m := fun _ => false) 1 rfl rfl rfl rfl (by decide) (by kernel_rfl) ?_
  simp only [vsAll, opA, dstOk, Nat.reduceAdd, Nat.reduceLT, ↓reduceIte, eq_self, Tryz.ntmps30]
  refine ⟨_, _, _, rfl, fun b hb => ?_⟩
  simp only [thn_normal]
  cases b with
  | true =>
    have h0 := hb rfl
    refine wps_vs (m := mset [2]) ?_
    simp only [vsAll, opA, dstOk, nilA, Nat.reduceLT, Nat.reduceBEq, ↓reduceIte, eq_self, wtAll]
    intro i2 hh_i2; (try simp only [Hp.set_none, ite_none] at hh_i2)
    simp only [vsAll, resA, retA.eq_1, ↓reduceIte, eq_self, Tryz.results30, Post.thn]
    refine ⟨H.set i2 (.row 1 0 (intF l)), HSub.set HSub_rfl (row_ext fun q hq => absurd hq (Nat.not_lt_zero q)), i2, hh_i2, ?_, ?_⟩
    ·rw [h0]
    ·rw [h0]
  | false =>
    refine wps_vs (m := fun _ => false) ?_
    simp only [vsAll, opA, ↓reduceIte, eq_self, thn_normal]
    refine wps_vs (m := mset [5]) ?_
    simp only [vsAll, okParts, buildMutA, partIdx, elemsA, lensA, partsA, partsOk, opA, appendA, dstOk, nilSliceOp, resA, retA.eq_1, Nat.reduceMul, Nat.reduceLT, Nat.reduceLeDiff, Nat.reduceEqDiff, Nat.reduceBEq, ↓reduceIte, reduceCtorEq, eq_self, wtAll, Tryz.results30]
    intro i5 hh_i5; (try simp only [Hp.set_none, ite_none] at hh_i5)
    refine ⟨fun i hi => ⟨rfl, trivial⟩, by ((try clear hh_i5); omega), by ((try clear hh_i5); omega), _, ?_, i5, hh_i5, rfl, rfl⟩
    rw [Hp.set_set]
    exact HSub.set HSub_rfl (row_ext fun q hq => app0 _ _ _ q hq)
end Go.Proofs.YtclkjifgipcamaaGreat
end
section
set_option linter.unusedVariables false
set_option linter.unusedSimpArgs false
set_option maxHeartbeats 4000000
set_option maxRecDepth 100000
namespace Go.Proofs.YtclkjifgipcamaaGreat
open Go.V
abbrev rTd : RefT := ⟨115, true⟩
theorem dsaid_no (v : AV) (H : Hp) : PTri Tryz.prog (fnA 24) [.lit .nilIface, v] H (.tuple []) := by
 refine tri_v0 (fun _ => false) Tryz.func24 (by kernel_rfl) rfl (by simp only [List.length_append, List.length_cons, List.length_nil, Tryz.ntmps24]; decide) ?_
 simp only [vsAll, binA, binLitA, nilA2, isConst, opA, dstOk, resA, argFr, retA.eq_2, Nat.reduceLT, ↓reduceIte, eq_self, wtAll, Tryz.ntmps24, Tryz.results24]
theorem intT115 : intT Tryz.prog 115 = none := by kernel_rfl
theorem dsaid_err {c : Int} {id : Nat} {f : Nat → List AV} {H : Hp} (ho : H id = some (.box 1 1 f)) (hl : (f 0).length = 1) :
  Tri Tryz.prog (fnA 24) [refD c, .ref id 0 1 0 0] H fun r H' => H' = H.set id (.box 1 1 fun _ => [i64 c]) ∧ r = .ret (.tuple []) := by
 refine Tri.drop ?_
 refine tri_v0 (mset [4]) Tryz.func24 (by kernel_rfl) rfl (by simp only [List.length_append, List.length_cons, List.length_nil, Tryz.ntmps24]; decide) ?_
 simp only [vsAll, binA, nilA2, unA, loadA, loadRow, partA, partOk, fieldAddrA, extractA, nilCheckA, cellA, cellsA, opA, allocA, newCells, okCells, storeObj, taA, dstOk, nilSliceOp, resA, argFr, retA.eq_2, Nat.reduceAdd, Nat.reduceLT, Nat.reduceEqDiff, Nat.reduceBEq, ↓reduceIte, reduceCtorEq, eq_self, wtAll, Tryz.ntmps24, Tryz.results24, intT115]
 intro k hh_k; (try simp only [Hp.set_none, ite_none] at hh_k)
 have hk : ¬ id = k := fun e => by rw [e, hh_k] at ho; cases ho
 simp only [vsAll, Nat.reduceLT, ↓reduceIte, eq_self, ho, hk]
 rw [List.drop_eq_nil_of_le (show (f 0).length ≤ 1 by ((try clear hh_k); omega)), Hp.set_set]
 exact ⟨_, HSub.set (HSub.drop (HSub.refl _) hh_k) (.refl _), rfl, rfl⟩
/-- What a deferred function does. -/
theorem dans_of {g : FuncId} {fn : Func} {id : Nat} {p1 p2 : String} {a1 a2 : Array Edge} {ty : Array TypeId} (hf : Tryz.prog.funcs[g]? = some fn)
  (hb : fn.body = some (.region id #[⟨some 1, .call ⟨.builtin .recover, #[], #[]⟩, 20, p1, a1, none⟩, ⟨some 2, .call ⟨.value (.func 24), #[.tmp 1, .tmp 0], ty⟩, 0, p2, a2, none⟩] false))
  (hr : fn.results = #[]) (hn : fn.ntmps = 3) (he : ∀ (vs : Array Value) (w : World), (callFunc g vs).run Tryz.prog w = .ok (.enter g vs) w) : AnsOk Tryz.prog g rTd := by
 refine ⟨fun H id f S vs ho hH ha => ?_, fun H id f c S vs ho hH ha => ?_, he⟩
 ·refine (ansR (m := fun _ => false) (args := [.ref id 0 1 0 0]) (Q := fun H' => H' = H) (u' := .returning) (rv := .lit .nilIface) (cv := .nilIface) hf hb hr (by rw [hn]; exact Nat.le_of_ble_eq_true rfl) (fun c₀ cs hu => .inr ⟨by simp [recoverD, hu], rfl, rfl⟩) hH ha (.lit _) (by rw [hn]; decide) ?_).mono ?_
  ·simp only [vcOps, vsAll, okAll, stAll, opsA, opA, dstOk, argFr, Nat.reduceLT, ↓reduceIte, reduceCtorEq, eq_self, hn]
   refine callK_pure (dsaid_no _ _) ?_
   simp only [vsAll, eq_self]
  ·rintro e u w ⟨h1, h2, S', H', h3, h4, h5, rfl⟩
   exact ⟨h1, h2, S', h3, h4, h5⟩
 ·have hl : (f 0).length = 1 := by
   obtain ⟨bb, cc, e, q1, q2, q3, q4⟩ := hH.obj id _ ho
   exact q4.2.1 0 (by omega)
  refine (ansR (m := fun _ => false) (args := [.ref id 0 1 0 0]) (Q := fun H' => H' = H.set id (.box 1 1 fun _ => [i64 c])) (u' := .panicking [{ v := Go.V.refusal rTd c, recovered := true }]) (rv := refD c) (cv := Go.V.refusal rTd c) hf hb hr (by rw [hn]; exact Nat.le_of_ble_eq_true rfl) (fun c₀ cs hu => .inl (by simp [recoverD, hu])) hH ha (.iface (.agg rfl fun k hk => by
   have : k = 0 := by simp at hk; exact hk
   subst this
   exact .lit _)) (by rw [hn]; decide) ?_).mono ?_
  ·simp only [vcOps, vsAll, okAll, stAll, opsA, opA, dstOk, argFr, Nat.reduceLT, ↓reduceIte, reduceCtorEq, eq_self, hn]
   refine ⟨_, dsaid_err ho hl, ?_⟩
   rintro r H' ⟨rfl, rfl⟩
   simp only [vsAll, eq_self]
  ·rintro e u w ⟨h1, h2, S', H', h3, h4, h5, rfl⟩
   exact ⟨h1, h2, S', h3, h4, h5⟩
theorem ans23 : AnsOk Tryz.prog 23 rTd := dans_of Tryz.func23 rfl rfl rfl fun vs w => by kernel_rfl
theorem ans32 : AnsOk Tryz.prog 32 rTd := dans_of Tryz.func32 rfl rfl rfl fun vs w => by kernel_rfl
theorem ans57 : AnsOk Tryz.prog 57 rTd := dans_of Tryz.func57 rfl rfl rfl fun vs w => by kernel_rfl
theorem ans87 : AnsOk Tryz.prog 87 rTd := dans_of Tryz.func87 rfl rfl rfl fun vs w => by kernel_rfl
abbrev refR (e : Int) : AV := .iface 133 (.agg [i64 e])
abbrev rTr : RefT := ⟨133, true⟩
theorem rsaid_no (v : AV) (H : Hp) : PTri Tryz.prog (fnA 37) [.lit .nilIface, v] H (.tuple []) := by
 refine tri_v0 (fun _ => false) Tryz.func37 (by kernel_rfl) rfl (by simp only [List.length_append, List.length_cons, List.length_nil, Tryz.ntmps37]; decide) ?_
 simp only [vsAll, binA, binLitA, nilA2, isConst, opA, dstOk, resA, argFr, retA.eq_2, Nat.reduceLT, ↓reduceIte, eq_self, wtAll, Tryz.ntmps37, Tryz.results37]
theorem intT133 : intT Tryz.prog 133 = none := by kernel_rfl
theorem rsaid_err {c : Int} {id : Nat} {f : Nat → List AV} {H : Hp} (ho : H id = some (.box 1 1 f)) (hl : (f 0).length = 1) :
  Tri Tryz.prog (fnA 37) [refR c, .ref id 0 1 0 0] H fun r H' => H' = H.set id (.box 1 1 fun _ => [i64 c]) ∧ r = .ret (.tuple []) := by
 refine Tri.drop ?_
 refine tri_v0 (mset [4]) Tryz.func37 (by kernel_rfl) rfl (by simp only [List.length_append, List.length_cons, List.length_nil, Tryz.ntmps37]; decide) ?_
 simp only [vsAll, binA, nilA2, unA, loadA, loadRow, partA, partOk, fieldAddrA, extractA, nilCheckA, cellA, cellsA, opA, allocA, newCells, okCells, storeObj, taA, dstOk, nilSliceOp, resA, argFr, retA.eq_2, Nat.reduceAdd, Nat.reduceLT, Nat.reduceEqDiff, Nat.reduceBEq, ↓reduceIte, reduceCtorEq, eq_self, wtAll, Tryz.ntmps37, Tryz.results37, intT133]
 intro k hh_k; (try simp only [Hp.set_none, ite_none] at hh_k)
 have hk : ¬ id = k := fun e => by rw [e, hh_k] at ho; cases ho
 simp only [vsAll, Nat.reduceLT, ↓reduceIte, eq_self, ho, hk]
 rw [List.drop_eq_nil_of_le (show (f 0).length ≤ 1 by ((try clear hh_k); omega)), Hp.set_set]
 exact ⟨_, HSub.set (HSub.drop (HSub.refl _) hh_k) (.refl _), rfl, rfl⟩
/-- What a deferred function does. -/
theorem rans_of {g : FuncId} {fn : Func} {id : Nat} {p1 p2 : String} {a1 a2 : Array Edge} {ty : Array TypeId} (hf : Tryz.prog.funcs[g]? = some fn)
  (hb : fn.body = some (.region id #[⟨some 1, .call ⟨.builtin .recover, #[], #[]⟩, 20, p1, a1, none⟩, ⟨some 2, .call ⟨.value (.func 37), #[.tmp 1, .tmp 0], ty⟩, 0, p2, a2, none⟩] false))
  (hr : fn.results = #[]) (hn : fn.ntmps = 3) (he : ∀ (vs : Array Value) (w : World), (callFunc g vs).run Tryz.prog w = .ok (.enter g vs) w) : AnsOk Tryz.prog g rTr := by
 refine ⟨fun H id f S vs ho hH ha => ?_, fun H id f c S vs ho hH ha => ?_, he⟩
 ·refine (ansR (m := fun _ => false) (args := [.ref id 0 1 0 0]) (Q := fun H' => H' = H) (u' := .returning) (rv := .lit .nilIface) (cv := .nilIface) hf hb hr (by rw [hn]; exact Nat.le_of_ble_eq_true rfl) (fun c₀ cs hu => .inr ⟨by simp [recoverD, hu], rfl, rfl⟩) hH ha (.lit _) (by rw [hn]; decide) ?_).mono ?_
  ·simp only [vcOps, vsAll, okAll, stAll, opsA, opA, dstOk, argFr, Nat.reduceLT, ↓reduceIte, reduceCtorEq, eq_self, hn]
   refine callK_pure (rsaid_no _ _) ?_
   simp only [vsAll, eq_self]
  ·rintro e u w ⟨h1, h2, S', H', h3, h4, h5, rfl⟩
   exact ⟨h1, h2, S', h3, h4, h5⟩
 ·have hl : (f 0).length = 1 := by
   obtain ⟨bb, cc, e, q1, q2, q3, q4⟩ := hH.obj id _ ho
   exact q4.2.1 0 (by omega)
  refine (ansR (m := fun _ => false) (args := [.ref id 0 1 0 0]) (Q := fun H' => H' = H.set id (.box 1 1 fun _ => [i64 c])) (u' := .panicking [{ v := Go.V.refusal rTr c, recovered := true }]) (rv := refR c) (cv := Go.V.refusal rTr c) hf hb hr (by rw [hn]; exact Nat.le_of_ble_eq_true rfl) (fun c₀ cs hu => .inl (by simp [recoverD, hu])) hH ha (.iface (.agg rfl fun k hk => by
   have : k = 0 := by simp at hk; exact hk
   subst this
   exact .lit _)) (by rw [hn]; decide) ?_).mono ?_
  ·simp only [vcOps, vsAll, okAll, stAll, opsA, opA, dstOk, argFr, Nat.reduceLT, ↓reduceIte, reduceCtorEq, eq_self, hn]
   refine ⟨_, rsaid_err ho hl, ?_⟩
   rintro r H' ⟨rfl, rfl⟩
   simp only [vsAll, eq_self]
  ·rintro e u w ⟨h1, h2, S', H', h3, h4, h5, rfl⟩
   exact ⟨h1, h2, S', h3, h4, h5⟩
theorem ans36 : AnsOk Tryz.prog 36 rTr := rans_of Tryz.func36 rfl rfl rfl fun vs w => by kernel_rfl
theorem ans40 : AnsOk Tryz.prog 40 rTr := rans_of Tryz.func40 rfl rfl rfl fun vs w => by kernel_rfl
theorem ans42 : AnsOk Tryz.prog 42 rTr := rans_of Tryz.func42 rfl rfl rfl fun vs w => by kernel_rfl
theorem ans51 : AnsOk Tryz.prog 51 rTr := rans_of Tryz.func51 rfl rfl rfl fun vs w => by kernel_rfl
theorem ans52 : AnsOk Tryz.prog 52 rTr := rans_of Tryz.func52 rfl rfl rfl fun vs w => by kernel_rfl
end Go.Proofs.YtclkjifgipcamaaGreat
end
section
set_option linter.unusedVariables false
set_option linter.unusedSimpArgs false
set_option maxHeartbeats 4000000
set_option maxRecDepth 100000
namespace Go.Proofs.YtclkjifgipcamaaGreat
open Go.V
theorem eqT55 : eqT Tryz.prog 55 2 := by
 refine ⟨by kernel_rfl, fun l l' w h h' => ?_⟩
 match l, h, l', h' with
 | [a, b], _, [c, d], _ =>
   have hi : Tryz.prog.underlying 3 = some (.int .i64) := by kernel_rfl
   have hs : szT Tryz.prog 3 = some (1, false) := by kernel_rfl
   have hu : Tryz.prog.underlying 55 = some (.array 2 3) := by kernel_rfl
   obtain ⟨inf, hinf⟩ := info_of_underlying hi
   have hc : Tryz.prog.cellsOf 3 = 1 := by kernel_rfl
   rw [run_equalIn_array w 9999 _ _ hu hinf, hc]
   have p0 : ∀ x y : Int, (part 3 #[Value.int .i64 x, Value.int .i64 y] (0 * 1)).run Tryz.prog w = .ok (.int .i64 x) w := fun x y => by
    rw [run_part (w := w) hs (show partOk false 1 _ _ from by simp [partOk])]; simp [partV]
   have p1 : ∀ x y : Int, (part 3 #[Value.int .i64 x, Value.int .i64 y] (1 * 1)).run Tryz.prog w = .ok (.int .i64 y) w := fun x y => by
    rw [run_part (w := w) hs (show partOk false 1 _ _ from by simp [partOk])]; simp [partV]
   have p2 : ∀ x y : Int, (part 3 #[Value.int .i64 x, Value.int .i64 y] 1).run Tryz.prog w = .ok (.int .i64 y) w := p1
   have p3 : ∀ x y : Int, (part 3 #[Value.int .i64 x, Value.int .i64 y] 0).run Tryz.prog w = .ok (.int .i64 x) w := p0
   show (Op.eqItems 9999 3 1 #[Value.int .i64 a, Value.int .i64 b] #[Value.int .i64 c, Value.int .i64 d] [0, 1]).run Tryz.prog w = _
   simp only [Op.eqItems, Sem.run_bind, p0, Nat.zero_mul, Nat.one_mul, Result.andThen_ok, run_equalIn_int w 9998 3 .i64 .i64 _ _ hi]
   by_cases e1 : a = c <;> by_cases e2 : b = d <;> simp [e1, e2, p2, fun x y : Int => run_equalIn_int w 9998 3 .i64 .i64 x y hi]
abbrev pA (p : Int × Int) : AV := .arr 2 1 fun i => [[i64 p.1], [i64 p.2]].getD i []
theorem index_tri (l : List (Int × Int)) (k : Nat) (p : Int × Int) (H : Hp) (hk : k ≤ l.length) (hl : l.length ≤ 1000) (hn : ∀ i, i < k → l.getD i (0, 0) ≠ p) : PTri Tryz.prog (fnA 82) [.rsl k 2 (prF l), pA p] H (i64 (-1)) := by
 refine tri_v0 (fun _ => false) Tryz.func82 (by kernel_rfl) rfl (by simp only [List.length_append, List.length_cons, List.length_nil, Tryz.ntmps82]; decide) ?_
 simp only [vsAll, lenA, boxA, boxZ, opA, dstOk, nilSliceOp, argFr, Nat.reduceLT, Int.reduceNeg, ↓reduceIte, reduceCtorEq, eq_self, wtAll, Tryz.ntmps82]
 refine vs_loop (σ := Nat) (fun i => i ≤ k) (fun i => [(0, .rsl k 2 (prF l)), (3, .rptr 2 1 (fun i => [[i64 p.1], [i64 p.2]].getD i []) 0 0), (7, i64 k), (8, i64 i)]) (fun _ => H) (fun i => k - i) 0 (Nat.zero_le _) ?_ HSub_rfl fun i hi => ?_
 ·simp only [vsAll, argFr, Nat.reduceEqDiff, ↓reduceIte, reduceCtorEq, eq_self, Int.natCast_zero]
 ·simp only [vsAll, binA, binLitA, intA, opA, dstOk, Nat.reduceLT, Nat.reduceEqDiff, Int.reduceNeg, ↓reduceIte, reduceCtorEq, eq_self]
  refine condD (fun hd => ?_) (fun hd => ?_)
  ·have hil : i < k := by omega
   simp only [vsAll, opA, dstOk, nilSliceOp, Nat.reduceLT, Nat.reduceEqDiff, Int.reduceNeg, ↓reduceIte, reduceCtorEq, eq_self]
   refine vs_draw 6 (by decide +kernel) ?_
   have hne : decide ([p.1, p.2] = [(l.getD i (0, 0)).1, (l.getD i (0, 0)).2]) = false := decide_eq_false fun h => hn i hil (by
    simp only [List.cons.injEq, and_true] at h
    exact Prod.ext h.1.symm h.2.symm)
   simp only [vsAll, binA, binLitA, intA, aggA, loadA, loadRow, indexAddrA, opA, dstOk, Nat.reduceAdd, Nat.reduceMul, Nat.reduceLT, Nat.reduceEqDiff, Int.reduceNeg, ↓reduceIte, reduceCtorEq, eq_self, wtAll, prF_at, arrC, hne]
   refine ⟨⟨by omega, by omega⟩, hil, eqT55, by simp only [InR_i64]; omega, loop_next (i + 1) hil (by omega) ?_ HSub_rfl⟩
   simp only [vsAll, Nat.reduceEqDiff, ↓reduceIte, reduceCtorEq, eq_self, Int.natCast_add, Int.natCast_one]
  ·simp only [vsAll, opA, dstOk, nilSliceOp, resA, retA.eq_1, Nat.reduceLT, Int.reduceNeg, ↓reduceIte, eq_self, Tryz.results82]
theorem contains_tri (l : List (Int × Int)) (k : Nat) (p : Int × Int) (H : Hp) (hk : k ≤ l.length) (hl : l.length ≤ 1000) (hn : ∀ i, i < k → l.getD i (0, 0) ≠ p) : PTri Tryz.prog (fnA 64) [.rsl k 2 (prF l), pA p] H (boo false) := by
 refine tri_v0 (fun _ => false) Tryz.func64 (by kernel_rfl) rfl (by simp only [List.length_append, List.length_cons, List.length_nil, Tryz.ntmps64]; decide) ?_
 simp only [vsAll, loadA, loadRow, boxA, boxZ, okAll, stAll, opsA, opA, dstOk, nilSliceOp, argFr, Nat.reduceLT, Nat.reduceEqDiff, ↓reduceIte, reduceCtorEq, eq_self, wtAll, Tryz.ntmps64]
 refine callK_pure (index_tri l k p _ hk hl hn) ?_
 simp only [vsAll, binA, binLitA, intA, opA, dstOk, nilSliceOp, resA, retA.eq_1, Nat.reduceLT, Int.reduceNeg, Int.reduceLE, ↓reduceIte, eq_self, Tryz.results64]
end Go.Proofs.YtclkjifgipcamaaGreat
end
