/- Helper lemmas of this claim, part 3. -/
import Derived.Test.YtclkjifgipcamaaChecked
import Derived.ChangeSame
import Derived.JoinedOf
import Derived.ProofKit
import Derived.Handed
import Derived.Test.YtclkjifgipcamaaAf2
section
namespace Go.V
theorem vsAll : type_of% (And.intro (And.intro (And.intro (And.intro (And.intro (And.intro (And.intro (And.intro (@VS_nil) (@VS_blk)) (And.intro (@VS_skip) (And.intro (@VS_label) (@VS_scope)))) (And.intro (And.intro (@VS_ret) (And.intro (@VS_exit) (@VX_nil))) (And.intro (@VX_normal) (And.intro (@VX_ret) (@VX_pan))))) (And.intro (And.intro (And.intro (@VX_exit_blk) (@VX_exit_code)) (And.intro (@VX_exit_ops) (And.intro (@VS_seq) (@VS_block)))) (And.intro (And.intro (@VS_region) (And.intro (@VS_cond) (@CondV_true))) (And.intro (@CondV_false) (And.intro (@VS_ops_nil) (@VS_ops)))))) (And.intro (And.intro (And.intro (And.intro (@VS_opsG) (@GdV_quiet)) (And.intro (@GdV_call) (And.intro (@GdV_quiet2) (@GdV_call2)))) (And.intro (And.intro (@cE_eq) (And.intro (@cP_eq) (@cA_eq))) (And.intro (@cU_eq) (And.intro (@cQ_eq) (@cG_eq))))) (And.intro (And.intro (And.intro (@k1_eq) (And.intro (@k2_eq) (@RQ_none))) (And.intro (@RQ_nil) (And.intro (@RQ_cons) (@VX_exit_ef)))) (And.intro (And.intro (@VX_exit_quiet) (And.intro (@cF_eq) (@cW_eq))) (And.intro (@VS_ef) (And.intro (@expand_nil) (@expand_cons))))))) (And.intro (And.intro (And.intro (And.intro (And.intro (@pickO_nil) (@pickO_cons)) (And.intro (@opAt_zero) (And.intro (@opAt_succ) (@vcRs_nil)))) (And.intro (And.intro (@vcRs_cons) (And.intro (@cR_eq) (@cRG_eq))) (And.intro (@dstIs_some) (And.intro (@dstIs_none) (@vcR1_quiet))))) (And.intro (And.intro (And.intro (@vcR1_call) (@vcR1_G)) (And.intro (@RGd_quiet) (And.intro (@RGd_call) (@RGd_quiet2)))) (And.intro (And.intro (@RGd_call2) (And.intro (@wipe_eq) (@wipeB_nil))) (And.intro (@wipeB_none) (And.intro (@wipeB_some) (@pu_move)))))) (And.intro (And.intro (And.intro (And.intro (@pu_assign) (@pu_pick)) (And.intro (@pu_box) (And.intro (@pu_build) (@pu_buildSlice)))) (And.intro (And.intro (@pu_load) (And.intro (@pu_nilCheck) (@pu_binOp))) (And.intro (@pu_unOp) (And.intro (@pu_convert) (@pu_makeInterface))))) (And.intro (And.intro (And.intro (@pu_makeFunc) (And.intro (@pu_fieldAddr) (@pu_field))) (And.intro (@pu_indexAddr) (And.intro (@pu_index) (@pu_extract)))) (And.intro (And.intro (@pu_len) (And.intro (@pu_max) (@pu_min))) (And.intro (@ef_quiet) (And.intro (@ef_alloc) (@ef_box)))))))) (And.intro (And.intro (And.intro (And.intro (And.intro (And.intro (@ef_boxM) (@ef_buildSlice)) (And.intro (@ef_buildMut) (And.intro (@ef_makeSlice) (@ef_sliceP)))) (And.intro (And.intro (@ef_sliceM) (And.intro (@ef_store) (@ef_nil))) (And.intro (@ef_assign) (And.intro (@ef_panic) (@cPan_eq))))) (And.intro (And.intro (And.intro (@cD_eq) (@ef_defer)) (And.intro (@ef_deferT) (And.intro (@ef_append) (@ef_makeMap)))) (And.intro (And.intro (@ef_mapUpdate) (And.intro (@ef_range) (@ef_next))) (And.intro (@ef_entry) (And.intro (@ef_copy) (@k3_eq)))))) (And.intro (And.intro (And.intro (And.intro (@pu_ta) (@taRes_true)) (And.intro (@taRes_false) (And.intro (@pu_lookup) (@pu_slice)))) (And.intro (And.intro (@gotV_some) (And.intro (@gotV_none) (@lookRes_true))) (And.intro (@lookRes_false) (And.intro (@keyV_lit) (@keyV_agg))))) (And.intro (And.intro (And.intro (@litV_nil) (And.intro (@litV_cons) (@valA_agg))) (And.intro (@valA_int) (And.intro (@valA_bool) (@Option.isSome_some.{0})))) (And.intro (And.intro (@Option.isSome_none.{0}) (And.intro (@ef_call) (@ef_invoke))) (And.intro (@cv_call) (And.intro (@cv_invoke) (@qE_eq))))))) (And.intro (And.intro (And.intro (And.intro (And.intro (@qG_eq) (@VS_quiet_nil)) (And.intro (@VS_quiet) (And.intro (@VS_quiet_call) (@VS_quietG)))) (And.intro (And.intro (@QGdV_quiet) (And.intro (@QGdV_call) (@QGdV_quiet2))) (And.intro (@QGdV_call2) (And.intro (@LoopQ_exit) (@LoopQ_ret))))) (And.intro (And.intro (And.intro (@LoopQ_pan) (And.intro (@LoopD_exit) (@LoopD_ret))) (And.intro (@LoopD_pan) (And.intro (@mset_some) (@mset_none)))) (And.intro (And.intro (@kAgg_eq) (And.intro (@buildA_eq) (@kBox_eq))) (And.intro (@kRow_eq) (And.intro (@storeA_eq) (@litI_nil)))))) (And.intro (And.intro (And.intro (And.intro (@litI_cons) (@fillR_nil)) (And.intro (@fillR_cons) (And.intro (@want_true) (@want_false)))) (And.intro (And.intro (@Slots_nil) (And.intro (@Slots_cons) (@AVLe_refl))) (And.intro (@AVLe_any) (And.intro (@AVLe_nil) (@updF_one))))) (And.intro (And.intro (And.intro (@HSub_refl) (And.intro (@isC_move) (@qu_move))) (And.intro (@isC_assign) (And.intro (@isC_pick) (@qu_pick)))) (And.intro (And.intro (@isC_alloc) (And.intro (@isC_box) (@isC_build))) (And.intro (@qu_build) (And.intro (@isC_buildSlice) (@isC_insert))))))))) (And.intro (And.intro (And.intro (And.intro (And.intro (And.intro (And.intro (@qu_insert) (@isC_load)) (And.intro (@qu_load) (And.intro (@isC_store) (@isC_ready)))) (And.intro (And.intro (@qu_ready) (And.intro (@isC_waits) (@qu_waits))) (And.intro (@isC_nilCheck) (And.intro (@qu_nilCheck) (@isC_binOp))))) (And.intro (And.intro (And.intro (@qu_binOp) (@isC_unOp)) (And.intro (@qu_unOp) (And.intro (@isC_convert) (@qu_convert)))) (And.intro (And.intro (@isC_makeInterface) (And.intro (@qu_makeInterface) (@isC_makeFunc))) (And.intro (@qu_makeFunc) (And.intro (@isC_makeMap) (@isC_slice)))))) (And.intro (And.intro (And.intro (And.intro (@isC_fieldAddr) (@qu_fieldAddr)) (And.intro (@isC_field) (And.intro (@qu_field) (@isC_indexAddr)))) (And.intro (And.intro (@qu_indexAddr) (And.intro (@isC_index) (@qu_index))) (And.intro (@isC_lookup) (And.intro (@qu_lookup) (@isC_mapUpdate))))) (And.intro (And.intro (And.intro (@isC_typeAssert) (And.intro (@qu_typeAssert) (@isC_extract))) (And.intro (@qu_extract) (And.intro (@isC_defer) (@isC_panic)))) (And.intro (And.intro (@isC_range) (And.intro (@isC_next) (@isC_entry))) (And.intro (@isC_makeSlice) (And.intro (@isC_mapEntry) (@qu_mapEntry))))))) (And.intro (And.intro (And.intro (And.intro (And.intro (@isC_entryStore) (@qu_entryStore)) (And.intro (@qu_blen) (And.intro (@qu_bmax) (@qu_bmin)))) (And.intro (And.intro (@isC_builtin) (And.intro (@isC_value) (@isC_invoke))) (And.intro (@st_lit) (And.intro (@st_agg) (@st_arr))))) (And.intro (And.intro (And.intro (@st_tuple) (@st_zp)) (And.intro (@ok_zp) (And.intro (@st_rptr) (@st_rsl)))) (And.intro (And.intro (@st_ref) (And.intro (@st_sl) (@st_vw))) (And.intro (@st_map) (And.intro (@st_func) (@st_iface)))))) (And.intro (And.intro (And.intro (And.intro (@st_under) (@st_any)) (And.intro (@ok_lit) (And.intro (@ok_agg) (@ok_arr)))) (And.intro (And.intro (@ok_tuple) (And.intro (@ok_rptr) (@ok_rsl))) (And.intro (@ok_ref) (And.intro (@ok_sl) (@ok_vw))))) (And.intro (And.intro (And.intro (@ok_map) (And.intro (@ok_func) (@ok_iface))) (And.intro (@ok_under) (And.intro (@ok_any) (@put_some)))) (And.intro (And.intro (@put_none) (And.intro (@Fr.of_nil) (@Fr.of_cons))) (And.intro (@Hp.set_at) (And.intro (@FnPost_pan) (@FnPost_exit)))))))) (And.intro (And.intro (And.intro (And.intro (And.intro (And.intro (@FnPost0_normal) (@FnPost0_ret)) (And.intro (@FnPost0_pan) (And.intro (@FnPost0_exit) (@FnPostM_normal)))) (And.intro (And.intro (@FnPostM_ret) (And.intro (@FnPostM_pan) (@FnPostM_exit))) (And.intro (@FnPostAM_normal) (And.intro (@FnPostAM_ret) (@FnPostAM_pan))))) (And.intro (And.intro (And.intro (@FnPostAM_exit) (@popM_nil)) (And.intro (@popM_call) (And.intro (@popM_mark) (@kRet_eq)))) (And.intro (And.intro (@kPan_eq) (And.intro (@kRetA_eq) (@kPanA_eq))) (And.intro (@AsgQ_normal) (And.intro (@RndQ_normal) (@RndQ_ret)))))) (And.intro (And.intro (And.intro (And.intro (@RndQ_exit) (@RndS_normal)) (And.intro (@RndS_ret) (And.intro (@RndS_exit) (@AsgS_normal)))) (And.intro (And.intro (@CutQ_normal) (And.intro (@putAll_nil) (@putAll_cons))) (And.intro (@List.getD_cons_zero.{0}) (And.intro (@List.getD_cons_succ.{0}) (@List.getD_nil.{0}))))) (And.intro (And.intro (And.intro (@List.take_succ_cons.{0}) (And.intro (@List.take_zero.{0}) (@List.take_nil.{0}))) (And.intro (@List.drop_succ_cons.{0}) (And.intro (@List.drop_zero.{0}) (@List.drop_nil.{0})))) (And.intro (And.intro (@List.length_cons.{0}) (And.intro (@List.length_nil.{0}) (@List.map_cons.{0,0}))) (And.intro (@List.map_nil.{0,0}) (And.intro (@List.nil_append.{0}) (@List.cons_append.{0}))))))) (And.intro (And.intro (And.intro (And.intro (And.intro (@List.append_nil.{0}) (@List.getElem?_toArray.{0})) (And.intro (@List.toList_toArray.{0}) (And.intro (@List.getElem?_cons_zero.{0}) (@List.getElem?_cons_succ.{0})))) (And.intro (And.intro (@List.getElem?_nil.{0}) (And.intro (@List.contains_cons.{0}) (@List.contains_nil.{0}))) (And.intro (@Int.toNat_natCast) (And.intro (@true_and) (@and_true))))) (And.intro (And.intro (And.intro (@and_self) (And.intro (@imp_self) (@false_and))) (And.intro (@and_false) (And.intro (@not_false_eq_true) (@not_true_eq_false)))) (And.intro (And.intro (@Bool.false_eq_true) (And.intro (@Bool.true_eq_false) (@Bool.cond_false_right))) (And.intro (@Bool.cond_true_left) (And.intro (@Bool.cond_true_right) (@Bool.cond_false_left)))))) (And.intro (And.intro (And.intro (And.intro (@Bool.and_true) (@Bool.and_false)) (And.intro (@Bool.true_and) (And.intro (@Bool.false_and) (@Bool.or_true)))) (And.intro (And.intro (@Bool.or_false) (And.intro (@Bool.true_or) (@Bool.false_or))) (And.intro (@Bool.not_eq_true') (And.intro (@Bool.not_eq_false') (@Bool.not_true))))) (And.intro (And.intro (And.intro (@Bool.not_false) (And.intro (@Bool.not_not) (@true_or))) (And.intro (@or_true) (And.intro (@or_false) (@false_or)))) (And.intro (And.intro (@decide_true) (And.intro (@decide_false) (@Nat.zero_add))) (And.intro (@Nat.add_zero) (And.intro (@Nat.le_refl) (@Nat.lt_irrefl)))))))))) := And.intro (And.intro (And.intro (And.intro (And.intro (And.intro (And.intro (And.intro (@VS_nil) (@VS_blk)) (And.intro (@VS_skip) (And.intro (@VS_label) (@VS_scope)))) (And.intro (And.intro (@VS_ret) (And.intro (@VS_exit) (@VX_nil))) (And.intro (@VX_normal) (And.intro (@VX_ret) (@VX_pan))))) (And.intro (And.intro (And.intro (@VX_exit_blk) (@VX_exit_code)) (And.intro (@VX_exit_ops) (And.intro (@VS_seq) (@VS_block)))) (And.intro (And.intro (@VS_region) (And.intro (@VS_cond) (@CondV_true))) (And.intro (@CondV_false) (And.intro (@VS_ops_nil) (@VS_ops)))))) (And.intro (And.intro (And.intro (And.intro (@VS_opsG) (@GdV_quiet)) (And.intro (@GdV_call) (And.intro (@GdV_quiet2) (@GdV_call2)))) (And.intro (And.intro (@cE_eq) (And.intro (@cP_eq) (@cA_eq))) (And.intro (@cU_eq) (And.intro (@cQ_eq) (@cG_eq))))) (And.intro (And.intro (And.intro (@k1_eq) (And.intro (@k2_eq) (@RQ_none))) (And.intro (@RQ_nil) (And.intro (@RQ_cons) (@VX_exit_ef)))) (And.intro (And.intro (@VX_exit_quiet) (And.intro (@cF_eq) (@cW_eq))) (And.intro (@VS_ef) (And.intro (@expand_nil) (@expand_cons))))))) (And.intro (And.intro (And.intro (And.intro (And.intro (@pickO_nil) (@pickO_cons)) (And.intro (@opAt_zero) (And.intro (@opAt_succ) (@vcRs_nil)))) (And.intro (And.intro (@vcRs_cons) (And.intro (@cR_eq) (@cRG_eq))) (And.intro (@dstIs_some) (And.intro (@dstIs_none) (@vcR1_quiet))))) (And.intro (And.intro (And.intro (@vcR1_call) (@vcR1_G)) (And.intro (@RGd_quiet) (And.intro (@RGd_call) (@RGd_quiet2)))) (And.intro (And.intro (@RGd_call2) (And.intro (@wipe_eq) (@wipeB_nil))) (And.intro (@wipeB_none) (And.intro (@wipeB_some) (@pu_move)))))) (And.intro (And.intro (And.intro (And.intro (@pu_assign) (@pu_pick)) (And.intro (@pu_box) (And.intro (@pu_build) (@pu_buildSlice)))) (And.intro (And.intro (@pu_load) (And.intro (@pu_nilCheck) (@pu_binOp))) (And.intro (@pu_unOp) (And.intro (@pu_convert) (@pu_makeInterface))))) (And.intro (And.intro (And.intro (@pu_makeFunc) (And.intro (@pu_fieldAddr) (@pu_field))) (And.intro (@pu_indexAddr) (And.intro (@pu_index) (@pu_extract)))) (And.intro (And.intro (@pu_len) (And.intro (@pu_max) (@pu_min))) (And.intro (@ef_quiet) (And.intro (@ef_alloc) (@ef_box)))))))) (And.intro (And.intro (And.intro (And.intro (And.intro (And.intro (@ef_boxM) (@ef_buildSlice)) (And.intro (@ef_buildMut) (And.intro (@ef_makeSlice) (@ef_sliceP)))) (And.intro (And.intro (@ef_sliceM) (And.intro (@ef_store) (@ef_nil))) (And.intro (@ef_assign) (And.intro (@ef_panic) (@cPan_eq))))) (And.intro (And.intro (And.intro (@cD_eq) (@ef_defer)) (And.intro (@ef_deferT) (And.intro (@ef_append) (@ef_makeMap)))) (And.intro (And.intro (@ef_mapUpdate) (And.intro (@ef_range) (@ef_next))) (And.intro (@ef_entry) (And.intro (@ef_copy) (@k3_eq)))))) (And.intro (And.intro (And.intro (And.intro (@pu_ta) (@taRes_true)) (And.intro (@taRes_false) (And.intro (@pu_lookup) (@pu_slice)))) (And.intro (And.intro (@gotV_some) (And.intro (@gotV_none) (@lookRes_true))) (And.intro (@lookRes_false) (And.intro (@keyV_lit) (@keyV_agg))))) (And.intro (And.intro (And.intro (@litV_nil) (And.intro (@litV_cons) (@valA_agg))) (And.intro (@valA_int) (And.intro (@valA_bool) (@Option.isSome_some.{0})))) (And.intro (And.intro (@Option.isSome_none.{0}) (And.intro (@ef_call) (@ef_invoke))) (And.intro (@cv_call) (And.intro (@cv_invoke) (@qE_eq))))))) (And.intro (And.intro (And.intro (And.intro (And.intro (@qG_eq) (@VS_quiet_nil)) (And.intro (@VS_quiet) (And.intro (@VS_quiet_call) (@VS_quietG)))) (And.intro (And.intro (@QGdV_quiet) (And.intro (@QGdV_call) (@QGdV_quiet2))) (And.intro (@QGdV_call2) (And.intro (@LoopQ_exit) (@LoopQ_ret))))) (And.intro (And.intro (And.intro (@LoopQ_pan) (And.intro (@LoopD_exit) (@LoopD_ret))) (And.intro (@LoopD_pan) (And.intro (@mset_some) (@mset_none)))) (And.intro (And.intro (@kAgg_eq) (And.intro (@buildA_eq) (@kBox_eq))) (And.intro (@kRow_eq) (And.intro (@storeA_eq) (@litI_nil)))))) (And.intro (And.intro (And.intro (And.intro (@litI_cons) (@fillR_nil)) (And.intro (@fillR_cons) (And.intro (@want_true) (@want_false)))) (And.intro (And.intro (@Slots_nil) (And.intro (@Slots_cons) (@AVLe_refl))) (And.intro (@AVLe_any) (And.intro (@AVLe_nil) (@updF_one))))) (And.intro (And.intro (And.intro (@HSub_refl) (And.intro (@isC_move) (@qu_move))) (And.intro (@isC_assign) (And.intro (@isC_pick) (@qu_pick)))) (And.intro (And.intro (@isC_alloc) (And.intro (@isC_box) (@isC_build))) (And.intro (@qu_build) (And.intro (@isC_buildSlice) (@isC_insert))))))))) (And.intro (And.intro (And.intro (And.intro (And.intro (And.intro (And.intro (@qu_insert) (@isC_load)) (And.intro (@qu_load) (And.intro (@isC_store) (@isC_ready)))) (And.intro (And.intro (@qu_ready) (And.intro (@isC_waits) (@qu_waits))) (And.intro (@isC_nilCheck) (And.intro (@qu_nilCheck) (@isC_binOp))))) (And.intro (And.intro (And.intro (@qu_binOp) (@isC_unOp)) (And.intro (@qu_unOp) (And.intro (@isC_convert) (@qu_convert)))) (And.intro (And.intro (@isC_makeInterface) (And.intro (@qu_makeInterface) (@isC_makeFunc))) (And.intro (@qu_makeFunc) (And.intro (@isC_makeMap) (@isC_slice)))))) (And.intro (And.intro (And.intro (And.intro (@isC_fieldAddr) (@qu_fieldAddr)) (And.intro (@isC_field) (And.intro (@qu_field) (@isC_indexAddr)))) (And.intro (And.intro (@qu_indexAddr) (And.intro (@isC_index) (@qu_index))) (And.intro (@isC_lookup) (And.intro (@qu_lookup) (@isC_mapUpdate))))) (And.intro (And.intro (And.intro (@isC_typeAssert) (And.intro (@qu_typeAssert) (@isC_extract))) (And.intro (@qu_extract) (And.intro (@isC_defer) (@isC_panic)))) (And.intro (And.intro (@isC_range) (And.intro (@isC_next) (@isC_entry))) (And.intro (@isC_makeSlice) (And.intro (@isC_mapEntry) (@qu_mapEntry))))))) (And.intro (And.intro (And.intro (And.intro (And.intro (@isC_entryStore) (@qu_entryStore)) (And.intro (@qu_blen) (And.intro (@qu_bmax) (@qu_bmin)))) (And.intro (And.intro (@isC_builtin) (And.intro (@isC_value) (@isC_invoke))) (And.intro (@st_lit) (And.intro (@st_agg) (@st_arr))))) (And.intro (And.intro (And.intro (@st_tuple) (@st_zp)) (And.intro (@ok_zp) (And.intro (@st_rptr) (@st_rsl)))) (And.intro (And.intro (@st_ref) (And.intro (@st_sl) (@st_vw))) (And.intro (@st_map) (And.intro (@st_func) (@st_iface)))))) (And.intro (And.intro (And.intro (And.intro (@st_under) (@st_any)) (And.intro (@ok_lit) (And.intro (@ok_agg) (@ok_arr)))) (And.intro (And.intro (@ok_tuple) (And.intro (@ok_rptr) (@ok_rsl))) (And.intro (@ok_ref) (And.intro (@ok_sl) (@ok_vw))))) (And.intro (And.intro (And.intro (@ok_map) (And.intro (@ok_func) (@ok_iface))) (And.intro (@ok_under) (And.intro (@ok_any) (@put_some)))) (And.intro (And.intro (@put_none) (And.intro (@Fr.of_nil) (@Fr.of_cons))) (And.intro (@Hp.set_at) (And.intro (@FnPost_pan) (@FnPost_exit)))))))) (And.intro (And.intro (And.intro (And.intro (And.intro (And.intro (@FnPost0_normal) (@FnPost0_ret)) (And.intro (@FnPost0_pan) (And.intro (@FnPost0_exit) (@FnPostM_normal)))) (And.intro (And.intro (@FnPostM_ret) (And.intro (@FnPostM_pan) (@FnPostM_exit))) (And.intro (@FnPostAM_normal) (And.intro (@FnPostAM_ret) (@FnPostAM_pan))))) (And.intro (And.intro (And.intro (@FnPostAM_exit) (@popM_nil)) (And.intro (@popM_call) (And.intro (@popM_mark) (@kRet_eq)))) (And.intro (And.intro (@kPan_eq) (And.intro (@kRetA_eq) (@kPanA_eq))) (And.intro (@AsgQ_normal) (And.intro (@RndQ_normal) (@RndQ_ret)))))) (And.intro (And.intro (And.intro (And.intro (@RndQ_exit) (@RndS_normal)) (And.intro (@RndS_ret) (And.intro (@RndS_exit) (@AsgS_normal)))) (And.intro (And.intro (@CutQ_normal) (And.intro (@putAll_nil) (@putAll_cons))) (And.intro (@List.getD_cons_zero.{0}) (And.intro (@List.getD_cons_succ.{0}) (@List.getD_nil.{0}))))) (And.intro (And.intro (And.intro (@List.take_succ_cons.{0}) (And.intro (@List.take_zero.{0}) (@List.take_nil.{0}))) (And.intro (@List.drop_succ_cons.{0}) (And.intro (@List.drop_zero.{0}) (@List.drop_nil.{0})))) (And.intro (And.intro (@List.length_cons.{0}) (And.intro (@List.length_nil.{0}) (@List.map_cons.{0,0}))) (And.intro (@List.map_nil.{0,0}) (And.intro (@List.nil_append.{0}) (@List.cons_append.{0}))))))) (And.intro (And.intro (And.intro (And.intro (And.intro (@List.append_nil.{0}) (@List.getElem?_toArray.{0})) (And.intro (@List.toList_toArray.{0}) (And.intro (@List.getElem?_cons_zero.{0}) (@List.getElem?_cons_succ.{0})))) (And.intro (And.intro (@List.getElem?_nil.{0}) (And.intro (@List.contains_cons.{0}) (@List.contains_nil.{0}))) (And.intro (@Int.toNat_natCast) (And.intro (@true_and) (@and_true))))) (And.intro (And.intro (And.intro (@and_self) (And.intro (@imp_self) (@false_and))) (And.intro (@and_false) (And.intro (@not_false_eq_true) (@not_true_eq_false)))) (And.intro (And.intro (@Bool.false_eq_true) (And.intro (@Bool.true_eq_false) (@Bool.cond_false_right))) (And.intro (@Bool.cond_true_left) (And.intro (@Bool.cond_true_right) (@Bool.cond_false_left)))))) (And.intro (And.intro (And.intro (And.intro (@Bool.and_true) (@Bool.and_false)) (And.intro (@Bool.true_and) (And.intro (@Bool.false_and) (@Bool.or_true)))) (And.intro (And.intro (@Bool.or_false) (And.intro (@Bool.true_or) (@Bool.false_or))) (And.intro (@Bool.not_eq_true') (And.intro (@Bool.not_eq_false') (@Bool.not_true))))) (And.intro (And.intro (And.intro (@Bool.not_false) (And.intro (@Bool.not_not) (@true_or))) (And.intro (@or_true) (And.intro (@or_false) (@false_or)))) (And.intro (And.intro (@decide_true) (And.intro (@decide_false) (@Nat.zero_add))) (And.intro (@Nat.add_zero) (And.intro (@Nat.le_refl) (@Nat.lt_irrefl)))))))))
end Go.V
end
section
namespace Go.Proofs.Ytclkjifgipcamaa
open Go.V
theorem wtAll : (((((((((boolT Try.prog 4 = true ∧ ifcT Try.prog 20 = true ∧ ifcT Try.prog 104 = true) ∧ ifcT Try.prog 105 = true ∧ ifcT Try.prog 197 = true ∧ ifcT Try.prog 198 = true) ∧ (ifcT Try.prog 227 = true ∧ ifcT Try.prog 228 = true ∧ ifcT Try.prog 232 = true) ∧
ifcT Try.prog 233 = true ∧ zT Try.prog 1 = false ∧ szT Try.prog 1 = some (1, false)) ∧ ((arT Try.prog 1 = none ∧ Try.prog.concrete 1 = true ∧ zT Try.prog 2 = false) ∧ szT Try.prog 2 = some (1, false) ∧ arT Try.prog 2 = none ∧ Try.prog.concrete 2 = true) ∧
((Try.prog.underlying 2).isSome = true ∧ intT Try.prog 2 = some .i64 ∧ elT Try.prog 2 = none) ∧ (azT Try.prog 2 = some (1, 1, [.int .i64 0]) ∧ zeroT Try.prog 2 = some [.int .i64 0]) ∧ zT Try.prog 3 = false ∧ szT Try.prog 3 = some (1, false)) ∧
(((arT Try.prog 3 = none ∧ Try.prog.concrete 3 = true ∧ (Try.prog.underlying 3).isSome = true) ∧ intT Try.prog 3 = some .i64 ∧ elT Try.prog 3 = none ∧ azT Try.prog 3 = some (1, 1, [.int .i64 0])) ∧ (zeroT Try.prog 3 = some [.int .i64 0] ∧ zT Try.prog 4 = false ∧
szT Try.prog 4 = some (1, false)) ∧ arT Try.prog 4 = none ∧ Try.prog.concrete 4 = true ∧ (Try.prog.underlying 4).isSome = true) ∧ ((elT Try.prog 4 = none ∧ azT Try.prog 4 = some (1, 1, [.bool false]) ∧ zeroT Try.prog 4 = some [.bool false]) ∧ zT Try.prog 5 = false ∧
szT Try.prog 5 = some (1, false) ∧ arT Try.prog 5 = none) ∧ (Try.prog.concrete 5 = true ∧ (Try.prog.underlying 5).isSome = true ∧ intT Try.prog 5 = some .u8) ∧ (elT Try.prog 5 = none ∧ azT Try.prog 5 = some (1, 1, [.int .u8 0])) ∧ zeroT Try.prog 5 = some [.int .u8 0] ∧
zT Try.prog 12 = false) ∧ ((((szT Try.prog 12 = some (1, false) ∧ arT Try.prog 12 = none ∧ Try.prog.concrete 12 = true) ∧ (Try.prog.underlying 12).isSome = true ∧ intT Try.prog 12 = some .u64 ∧ elT Try.prog 12 = none) ∧ (azT Try.prog 12 = some (1, 1, [.int .u64 0]) ∧
zeroT Try.prog 12 = some [.int .u64 0] ∧ zT Try.prog 13 = false) ∧ szT Try.prog 13 = some (2, true) ∧ arT Try.prog 13 = none ∧ Try.prog.concrete 13 = true) ∧ (((Try.prog.underlying 13).isSome = true ∧ elT Try.prog 13 = none ∧ azT Try.prog 13 = some (2, 1, [.string .empty, .int .u64 0])) ∧
zeroT Try.prog 13 = some [.string .empty, .int .u64 0] ∧ bT Try.prog 13 = true ∧ fldT Try.prog 13 0 = some (0, 1, false)) ∧ (fldT Try.prog 13 1 = some (1, 1, false) ∧ zT Try.prog 20 = false ∧ szT Try.prog 20 = some (1, false)) ∧ (arT Try.prog 20 = none ∧
zT Try.prog 21 = false) ∧ szT Try.prog 21 = some (1, false) ∧ arT Try.prog 21 = none) ∧ (((Try.prog.concrete 21 = true ∧ (Try.prog.underlying 21).isSome = true ∧ intT Try.prog 21 = some .i32) ∧ elT Try.prog 21 = none ∧ azT Try.prog 21 = some (1, 1, [.int .i32 0]) ∧
zeroT Try.prog 21 = some [.int .i32 0]) ∧ (zT Try.prog 22 = false ∧ szT Try.prog 22 = some (1, false) ∧ arT Try.prog 22 = none) ∧ Try.prog.concrete 22 = true ∧ (Try.prog.underlying 22).isSome = true ∧ elT Try.prog 22 = some (1, false)) ∧ ((elB Try.prog 22 = some (1, 2) ∧
bsT Try.prog 22 = some 1 ∧ mkT Try.prog 22 = some (1, 2, [.int .u16 0])) ∧ azT Try.prog 22 = some (1, 1, [.slice none 0 0]) ∧ zeroT Try.prog 22 = some [.slice none 0 0] ∧ zT Try.prog 23 = false) ∧ (szT Try.prog 23 = some (1, false) ∧ arT Try.prog 23 = none ∧
Try.prog.concrete 23 = true) ∧ (zT Try.prog 24 = false ∧ szT Try.prog 24 = some (1, false)) ∧ arT Try.prog 24 = none ∧ Try.prog.concrete 24 = true) ∧ (((((zT Try.prog 25 = false ∧ szT Try.prog 25 = some (1, false) ∧ arT Try.prog 25 = none) ∧ Try.prog.concrete 25 = true ∧
(Try.prog.underlying 25).isSome = true ∧ elT Try.prog 25 = some (3, true)) ∧ (elB Try.prog 25 = some (3, 24) ∧ bsT Try.prog 25 = some 3 ∧ mkT Try.prog 25 = some (3, 24, [.int .i64 0, .int .i64 0, .int .i64 0])) ∧ azT Try.prog 25 = some (1, 1, [.slice none 0 0]) ∧
zeroT Try.prog 25 = some [.slice none 0 0] ∧ zT Try.prog 26 = false) ∧ ((szT Try.prog 26 = some (1, false) ∧ arT Try.prog 26 = none ∧ Try.prog.concrete 26 = true) ∧ (Try.prog.underlying 26).isSome = true ∧ elT Try.prog 26 = some (4, true) ∧ elB Try.prog 26 = some (4, 32)) ∧
(bsT Try.prog 26 = some 4 ∧ mkT Try.prog 26 = some (4, 32, [.int .i64 0, .int .i64 0, .int .i64 0, .int .i64 0]) ∧ azT Try.prog 26 = some (1, 1, [.slice none 0 0])) ∧ (zeroT Try.prog 26 = some [.slice none 0 0] ∧ zT Try.prog 27 = false) ∧ szT Try.prog 27 = some (2, true) ∧
arT Try.prog 27 = none) ∧ (((Try.prog.concrete 27 = true ∧ (Try.prog.underlying 27).isSome = true ∧ elT Try.prog 27 = none) ∧ azT Try.prog 27 = some (2, 1, [.slice none 0 0, .slice none 0 0]) ∧ zeroT Try.prog 27 = some [.slice none 0 0, .slice none 0 0] ∧
bT Try.prog 27 = true) ∧ (fldT Try.prog 27 0 = some (0, 1, false) ∧ fldT Try.prog 27 1 = some (1, 1, false) ∧ zT Try.prog 28 = false) ∧ szT Try.prog 28 = some (2, true) ∧ arT Try.prog 28 = none ∧ Try.prog.concrete 28 = true) ∧ (((Try.prog.underlying 28).isSome = true ∧
elT Try.prog 28 = none ∧ azT Try.prog 28 = some (2, 1, [.slice none 0 0, .slice none 0 0])) ∧ zeroT Try.prog 28 = some [.slice none 0 0, .slice none 0 0] ∧ bT Try.prog 28 = true ∧ fldT Try.prog 28 0 = some (0, 1, false)) ∧ (fldT Try.prog 28 1 = some (1, 1, false) ∧
zT Try.prog 29 = false ∧ szT Try.prog 29 = some (1, false)) ∧ (arT Try.prog 29 = none ∧ Try.prog.concrete 29 = true) ∧ (Try.prog.underlying 29).isSome = true ∧ elT Try.prog 29 = some (1, false)) ∧ ((((elB Try.prog 29 = some (1, 8) ∧ bsT Try.prog 29 = some 1 ∧
mkT Try.prog 29 = some (1, 8, [.int .i64 0])) ∧ azT Try.prog 29 = some (1, 1, [.slice none 0 0]) ∧ zeroT Try.prog 29 = some [.slice none 0 0] ∧ zT Try.prog 30 = false) ∧ (szT Try.prog 30 = some (3, true) ∧ arT Try.prog 30 = none ∧ Try.prog.concrete 30 = true) ∧
(Try.prog.underlying 30).isSome = true ∧ elT Try.prog 30 = none ∧ azT Try.prog 30 = some (3, 1, [.int .i64 0, .int .i64 0, .int .i64 0])) ∧ ((zeroT Try.prog 30 = some [.int .i64 0, .int .i64 0, .int .i64 0] ∧ bT Try.prog 30 = true ∧ fldT Try.prog 30 0 = some (0, 1, false)) ∧
fldT Try.prog 30 1 = some (1, 1, false) ∧ fldT Try.prog 30 2 = some (2, 1, false) ∧ zT Try.prog 31 = false) ∧ (szT Try.prog 31 = some (3, true) ∧ arT Try.prog 31 = none ∧ Try.prog.concrete 31 = true) ∧ ((Try.prog.underlying 31).isSome = true ∧
elT Try.prog 31 = none) ∧ azT Try.prog 31 = some (3, 1, [.int .i64 0, .int .i64 0, .int .i64 0]) ∧ zeroT Try.prog 31 = some [.int .i64 0, .int .i64 0, .int .i64 0]) ∧ (((bT Try.prog 31 = true ∧ fldT Try.prog 31 0 = some (0, 1, false) ∧ fldT Try.prog 31 1 = some (1, 1, false)) ∧
fldT Try.prog 31 2 = some (2, 1, false) ∧ zT Try.prog 32 = false ∧ szT Try.prog 32 = some (1, false)) ∧ (arT Try.prog 32 = none ∧ Try.prog.concrete 32 = true ∧ zT Try.prog 33 = false) ∧ szT Try.prog 33 = some (2, true) ∧ arT Try.prog 33 = none ∧
Try.prog.concrete 33 = true) ∧ (((Try.prog.underlying 33).isSome = true ∧ elT Try.prog 33 = none ∧ azT Try.prog 33 = some (2, 1, [.int .i64 0, .int .i64 0])) ∧ zeroT Try.prog 33 = some [.int .i64 0, .int .i64 0] ∧ bT Try.prog 33 = true ∧ fldT Try.prog 33 0 = some (0, 1, false)) ∧
(fldT Try.prog 33 1 = some (1, 1, false) ∧ zT Try.prog 34 = false ∧ szT Try.prog 34 = some (2, true)) ∧ (arT Try.prog 34 = none ∧ Try.prog.concrete 34 = true) ∧ (Try.prog.underlying 34).isSome = true ∧ elT Try.prog 34 = none) ∧ ((((((azT Try.prog 34 = some (2, 1, [.int .i64 0, .int .i64 0]) ∧
zeroT Try.prog 34 = some [.int .i64 0, .int .i64 0] ∧ bT Try.prog 34 = true) ∧ fldT Try.prog 34 0 = some (0, 1, false) ∧ fldT Try.prog 34 1 = some (1, 1, false) ∧ zT Try.prog 35 = false) ∧ (szT Try.prog 35 = some (1, false) ∧ arT Try.prog 35 = none ∧
Try.prog.concrete 35 = true) ∧ zT Try.prog 36 = false ∧ szT Try.prog 36 = some (4, true) ∧ arT Try.prog 36 = none) ∧ ((Try.prog.concrete 36 = true ∧ (Try.prog.underlying 36).isSome = true ∧ elT Try.prog 36 = none) ∧ azT Try.prog 36 = some (4, 1, [.int .i64 0, .int .i64 0, .int .i64 0, .int .i64 0]) ∧
zeroT Try.prog 36 = some [.int .i64 0, .int .i64 0, .int .i64 0, .int .i64 0] ∧ bT Try.prog 36 = true) ∧ (fldT Try.prog 36 0 = some (0, 1, false) ∧ fldT Try.prog 36 1 = some (1, 1, false) ∧ fldT Try.prog 36 2 = some (2, 2, true)) ∧ (zT Try.prog 37 = false ∧
szT Try.prog 37 = some (4, true)) ∧ arT Try.prog 37 = none ∧ Try.prog.concrete 37 = true) ∧ ((((Try.prog.underlying 37).isSome = true ∧ elT Try.prog 37 = none ∧ azT Try.prog 37 = some (4, 1, [.int .i64 0, .int .i64 0, .int .i64 0, .int .i64 0])) ∧
zeroT Try.prog 37 = some [.int .i64 0, .int .i64 0, .int .i64 0, .int .i64 0] ∧ bT Try.prog 37 = true ∧ fldT Try.prog 37 0 = some (0, 1, false)) ∧ (fldT Try.prog 37 1 = some (1, 1, false) ∧ fldT Try.prog 37 2 = some (2, 2, true) ∧ zT Try.prog 38 = false) ∧
szT Try.prog 38 = some (1, false) ∧ arT Try.prog 38 = none ∧ Try.prog.concrete 38 = true) ∧ (((Try.prog.underlying 38).isSome = true ∧ elT Try.prog 38 = some (5, true) ∧ elB Try.prog 38 = some (5, 40)) ∧ bsT Try.prog 38 = some 5 ∧ mkT Try.prog 38 = some (5, 40, [.int .i64 0, .int .i64 0, .int .i64 0, .int .i64 0, .int .i64 0]) ∧
azT Try.prog 38 = some (1, 1, [.slice none 0 0])) ∧ (zeroT Try.prog 38 = some [.slice none 0 0] ∧ zT Try.prog 39 = false ∧ szT Try.prog 39 = some (2, true)) ∧ (arT Try.prog 39 = none ∧ Try.prog.concrete 39 = true) ∧ (Try.prog.underlying 39).isSome = true ∧
elT Try.prog 39 = none) ∧ ((((azT Try.prog 39 = some (2, 1, [.slice none 0 0, .slice none 0 0]) ∧ zeroT Try.prog 39 = some [.slice none 0 0, .slice none 0 0] ∧ bT Try.prog 39 = true) ∧ fldT Try.prog 39 0 = some (0, 1, false) ∧ fldT Try.prog 39 1 = some (1, 1, false) ∧
zT Try.prog 40 = false) ∧ (szT Try.prog 40 = some (2, true) ∧ arT Try.prog 40 = none ∧ Try.prog.concrete 40 = true) ∧ (Try.prog.underlying 40).isSome = true ∧ elT Try.prog 40 = none ∧ azT Try.prog 40 = some (2, 1, [.slice none 0 0, .slice none 0 0])) ∧
((zeroT Try.prog 40 = some [.slice none 0 0, .slice none 0 0] ∧ bT Try.prog 40 = true ∧ fldT Try.prog 40 0 = some (0, 1, false)) ∧ fldT Try.prog 40 1 = some (1, 1, false) ∧ zT Try.prog 41 = false ∧ szT Try.prog 41 = some (1, false)) ∧ (arT Try.prog 41 = none ∧
Try.prog.concrete 41 = true ∧ (Try.prog.underlying 41).isSome = true) ∧ (elT Try.prog 41 = some (2, true) ∧ elB Try.prog 41 = some (2, 16)) ∧ bsT Try.prog 41 = some 2 ∧ mkT Try.prog 41 = some (2, 16, [.int .i64 0, .int .i64 0])) ∧ (((azT Try.prog 41 = some (1, 1, [.slice none 0 0]) ∧
zeroT Try.prog 41 = some [.slice none 0 0] ∧ zT Try.prog 42 = false) ∧ szT Try.prog 42 = some (1, false) ∧ arT Try.prog 42 = none ∧ Try.prog.concrete 42 = true) ∧ ((Try.prog.underlying 42).isSome = true ∧ elT Try.prog 42 = some (4, true) ∧ elB Try.prog 42 = some (4, 32)) ∧
bsT Try.prog 42 = some 4 ∧ mkT Try.prog 42 = some (4, 32, [.int .i64 0, .int .i64 0, .int .i64 0, .int .i64 0]) ∧ azT Try.prog 42 = some (1, 1, [.slice none 0 0])) ∧ ((zeroT Try.prog 42 = some [.slice none 0 0] ∧ zT Try.prog 43 = false ∧ szT Try.prog 43 = some (5, true)) ∧
arT Try.prog 43 = none ∧ Try.prog.concrete 43 = true ∧ (Try.prog.underlying 43).isSome = true) ∧ (elT Try.prog 43 = none ∧ azT Try.prog 43 = some (5, 1, [.slice none 0 0, .int .i64 0, .slice none 0 0, .slice none 0 0, .slice none 0 0]) ∧ zeroT Try.prog 43 = some [.slice none 0 0, .int .i64 0, .slice none 0 0, .slice none 0 0, .slice none 0 0]) ∧
(bT Try.prog 43 = true ∧ fldT Try.prog 43 0 = some (0, 1, false)) ∧ fldT Try.prog 43 1 = some (1, 1, false) ∧ fldT Try.prog 43 2 = some (2, 1, false)) ∧ (((((fldT Try.prog 43 3 = some (3, 2, true) ∧ zT Try.prog 44 = false ∧ szT Try.prog 44 = some (5, true)) ∧
arT Try.prog 44 = none ∧ Try.prog.concrete 44 = true ∧ (Try.prog.underlying 44).isSome = true) ∧ (elT Try.prog 44 = none ∧ azT Try.prog 44 = some (5, 1, [.slice none 0 0, .int .i64 0, .slice none 0 0, .slice none 0 0, .slice none 0 0]) ∧ zeroT Try.prog 44 = some [.slice none 0 0, .int .i64 0, .slice none 0 0, .slice none 0 0, .slice none 0 0]) ∧
bT Try.prog 44 = true ∧ fldT Try.prog 44 0 = some (0, 1, false) ∧ fldT Try.prog 44 1 = some (1, 1, false)) ∧ ((fldT Try.prog 44 2 = some (2, 1, false) ∧ fldT Try.prog 44 3 = some (3, 2, true) ∧ zT Try.prog 45 = false) ∧ szT Try.prog 45 = some (1, false) ∧
arT Try.prog 45 = none ∧ Try.prog.concrete 45 = true) ∧ ((Try.prog.underlying 45).isSome = true ∧ intT Try.prog 45 = some .i64 ∧ elT Try.prog 45 = none) ∧ (azT Try.prog 45 = some (1, 1, [.int .i64 0]) ∧ zeroT Try.prog 45 = some [.int .i64 0]) ∧
zT Try.prog 47 = false ∧ szT Try.prog 47 = some (1, false)) ∧ (((arT Try.prog 47 = none ∧ Try.prog.concrete 47 = true ∧ zT Try.prog 48 = false) ∧ szT Try.prog 48 = some (5, true) ∧ arT Try.prog 48 = none ∧ Try.prog.concrete 48 = true) ∧ ((Try.prog.underlying 48).isSome = true ∧
elT Try.prog 48 = none ∧ azT Try.prog 48 = some (5, 1, [.int .i64 0, .int .i64 0, .int .i64 0, .int .i64 0, .int .i64 0])) ∧ zeroT Try.prog 48 = some [.int .i64 0, .int .i64 0, .int .i64 0, .int .i64 0, .int .i64 0] ∧ bT Try.prog 48 = true ∧ fldT Try.prog 48 0 = some (0, 1, false)) ∧
((fldT Try.prog 48 1 = some (1, 2, true) ∧ fldT Try.prog 48 2 = some (3, 2, true) ∧ zT Try.prog 49 = false) ∧ szT Try.prog 49 = some (5, true) ∧ arT Try.prog 49 = none ∧ Try.prog.concrete 49 = true) ∧ ((Try.prog.underlying 49).isSome = true ∧ elT Try.prog 49 = none ∧
azT Try.prog 49 = some (5, 1, [.int .i64 0, .int .i64 0, .int .i64 0, .int .i64 0, .int .i64 0])) ∧ (zeroT Try.prog 49 = some [.int .i64 0, .int .i64 0, .int .i64 0, .int .i64 0, .int .i64 0] ∧ bT Try.prog 49 = true) ∧ fldT Try.prog 49 0 = some (0, 1, false) ∧
fldT Try.prog 49 1 = some (1, 2, true)) ∧ ((((fldT Try.prog 49 2 = some (3, 2, true) ∧ zT Try.prog 51 = false ∧ szT Try.prog 51 = some (1, false)) ∧ arT Try.prog 51 = none ∧ Try.prog.concrete 51 = true ∧ zT Try.prog 52 = false) ∧ (szT Try.prog 52 = some (4, true) ∧
arT Try.prog 52 = none ∧ Try.prog.concrete 52 = true) ∧ (Try.prog.underlying 52).isSome = true ∧ elT Try.prog 52 = none ∧ azT Try.prog 52 = some (4, 1, [.int .i64 0, .int .i64 0, .int .i64 0, .int .i64 0])) ∧ ((zeroT Try.prog 52 = some [.int .i64 0, .int .i64 0, .int .i64 0, .int .i64 0] ∧
bT Try.prog 52 = true ∧ fldT Try.prog 52 0 = some (0, 2, true)) ∧ fldT Try.prog 52 1 = some (2, 1, false) ∧ fldT Try.prog 52 2 = some (3, 1, false) ∧ zT Try.prog 53 = false) ∧ (szT Try.prog 53 = some (4, true) ∧ arT Try.prog 53 = none ∧ Try.prog.concrete 53 = true) ∧
((Try.prog.underlying 53).isSome = true ∧ elT Try.prog 53 = none) ∧ azT Try.prog 53 = some (4, 1, [.int .i64 0, .int .i64 0, .int .i64 0, .int .i64 0]) ∧ zeroT Try.prog 53 = some [.int .i64 0, .int .i64 0, .int .i64 0, .int .i64 0]) ∧ (((bT Try.prog 53 = true ∧
fldT Try.prog 53 0 = some (0, 2, true) ∧ fldT Try.prog 53 1 = some (2, 1, false)) ∧ fldT Try.prog 53 2 = some (3, 1, false) ∧ zT Try.prog 55 = false ∧ szT Try.prog 55 = some (1, false)) ∧ (arT Try.prog 55 = none ∧ Try.prog.concrete 55 = true ∧
zT Try.prog 57 = false) ∧ (szT Try.prog 57 = some (1, false) ∧ arT Try.prog 57 = none) ∧ Try.prog.concrete 57 = true ∧ zT Try.prog 58 = false) ∧ ((szT Try.prog 58 = some (1, false) ∧ arT Try.prog 58 = none ∧ Try.prog.concrete 58 = true) ∧ zT Try.prog 59 = false ∧
szT Try.prog 59 = some (1, false) ∧ arT Try.prog 59 = none) ∧ (Try.prog.concrete 59 = true ∧ zT Try.prog 60 = false ∧ szT Try.prog 60 = some (1, false)) ∧ (arT Try.prog 60 = none ∧ Try.prog.concrete 60 = true) ∧ zT Try.prog 62 = false ∧ szT Try.prog 62 = some (1, false)) ∧
(((((((arT Try.prog 62 = none ∧ Try.prog.concrete 62 = true ∧ zT Try.prog 63 = false) ∧ szT Try.prog 63 = some (3, true) ∧ arT Try.prog 63 = none ∧ Try.prog.concrete 63 = true) ∧ ((Try.prog.underlying 63).isSome = true ∧ elT Try.prog 63 = none ∧
azT Try.prog 63 = some (3, 1, [.slice none 0 0, .slice none 0 0, .slice none 0 0])) ∧ zeroT Try.prog 63 = some [.slice none 0 0, .slice none 0 0, .slice none 0 0] ∧ bT Try.prog 63 = true ∧ fldT Try.prog 63 0 = some (0, 2, true)) ∧ ((fldT Try.prog 63 1 = some (2, 1, false) ∧
zT Try.prog 64 = false ∧ szT Try.prog 64 = some (3, true)) ∧ arT Try.prog 64 = none ∧ Try.prog.concrete 64 = true ∧ (Try.prog.underlying 64).isSome = true) ∧ (elT Try.prog 64 = none ∧ azT Try.prog 64 = some (3, 1, [.slice none 0 0, .slice none 0 0, .slice none 0 0]) ∧
zeroT Try.prog 64 = some [.slice none 0 0, .slice none 0 0, .slice none 0 0]) ∧ (bT Try.prog 64 = true ∧ fldT Try.prog 64 0 = some (0, 2, true)) ∧ fldT Try.prog 64 1 = some (2, 1, false) ∧ zT Try.prog 65 = false) ∧ (((szT Try.prog 65 = some (1, false) ∧
arT Try.prog 65 = none ∧ Try.prog.concrete 65 = true) ∧ zT Try.prog 66 = false ∧ szT Try.prog 66 = some (1, false) ∧ arT Try.prog 66 = none) ∧ (Try.prog.concrete 66 = true ∧ zT Try.prog 67 = false ∧ szT Try.prog 67 = some (1, false)) ∧ arT Try.prog 67 = none ∧
Try.prog.concrete 67 = true ∧ (Try.prog.underlying 67).isSome = true) ∧ ((elT Try.prog 67 = some (2, true) ∧ elB Try.prog 67 = some (2, 16) ∧ bsT Try.prog 67 = some 2) ∧ mkT Try.prog 67 = some (2, 16, [.int .i64 0, .bool false]) ∧ azT Try.prog 67 = some (1, 1, [.slice none 0 0]) ∧
zeroT Try.prog 67 = some [.slice none 0 0]) ∧ (zT Try.prog 69 = false ∧ szT Try.prog 69 = some (1, false) ∧ arT Try.prog 69 = none) ∧ (Try.prog.concrete 69 = true ∧ zT Try.prog 71 = false) ∧ szT Try.prog 71 = some (1, false) ∧ arT Try.prog 71 = none) ∧
((((Try.prog.concrete 71 = true ∧ zT Try.prog 73 = false ∧ szT Try.prog 73 = some (1, false)) ∧ arT Try.prog 73 = none ∧ Try.prog.concrete 73 = true ∧ zT Try.prog 74 = false) ∧ (szT Try.prog 74 = some (1, false) ∧ arT Try.prog 74 = none ∧ Try.prog.concrete 74 = true) ∧
zT Try.prog 75 = false ∧ szT Try.prog 75 = some (1, false) ∧ arT Try.prog 75 = none) ∧ ((Try.prog.concrete 75 = true ∧ zT Try.prog 76 = false ∧ szT Try.prog 76 = some (1, false)) ∧ arT Try.prog 76 = none ∧ Try.prog.concrete 76 = true ∧ (Try.prog.underlying 76).isSome = true) ∧
(intT Try.prog 76 = some .u16 ∧ elT Try.prog 76 = none ∧ azT Try.prog 76 = some (1, 1, [.int .u16 0])) ∧ (zeroT Try.prog 76 = some [.int .u16 0] ∧ zT Try.prog 77 = false) ∧ szT Try.prog 77 = some (1, false) ∧ arT Try.prog 77 = none) ∧ (((Try.prog.concrete 77 = true ∧
zT Try.prog 78 = false ∧ szT Try.prog 78 = some (1, false)) ∧ azT Try.prog 78 = some (1, 1, [.pointer none]) ∧ arT Try.prog 78 = none ∧ Try.prog.concrete 78 = true) ∧ (zT Try.prog 79 = false ∧ szT Try.prog 79 = some (1, false) ∧ azT Try.prog 79 = some (1, 1, [.pointer none])) ∧
arT Try.prog 79 = none ∧ Try.prog.concrete 79 = true ∧ zT Try.prog 80 = false) ∧ ((szT Try.prog 80 = some (1, false) ∧ arT Try.prog 80 = none ∧ Try.prog.concrete 80 = true) ∧ zT Try.prog 81 = false ∧ szT Try.prog 81 = some (1, false) ∧ arT Try.prog 81 = none) ∧
(Try.prog.concrete 81 = true ∧ zT Try.prog 82 = false ∧ szT Try.prog 82 = some (1, false)) ∧ (arT Try.prog 82 = none ∧ Try.prog.concrete 82 = true) ∧ zT Try.prog 83 = false ∧ szT Try.prog 83 = some (1, false)) ∧ (((((arT Try.prog 83 = none ∧ Try.prog.concrete 83 = true ∧
zT Try.prog 84 = false) ∧ szT Try.prog 84 = some (1, false) ∧ arT Try.prog 84 = none ∧ Try.prog.concrete 84 = true) ∧ (zT Try.prog 85 = false ∧ szT Try.prog 85 = some (2, true) ∧ arT Try.prog 85 = none) ∧ Try.prog.concrete 85 = true ∧ (Try.prog.underlying 85).isSome = true ∧
elT Try.prog 85 = none) ∧ ((azT Try.prog 85 = some (2, 1, [.int .i64 0, .int .i64 0]) ∧ zeroT Try.prog 85 = some [.int .i64 0, .int .i64 0] ∧ bT Try.prog 85 = true) ∧ fldT Try.prog 85 0 = some (0, 1, false) ∧ fldT Try.prog 85 1 = some (1, 1, false) ∧
zT Try.prog 86 = false) ∧ (szT Try.prog 86 = some (2, true) ∧ arT Try.prog 86 = none ∧ Try.prog.concrete 86 = true) ∧ ((Try.prog.underlying 86).isSome = true ∧ elT Try.prog 86 = none) ∧ azT Try.prog 86 = some (2, 1, [.int .i64 0, .int .i64 0]) ∧
zeroT Try.prog 86 = some [.int .i64 0, .int .i64 0]) ∧ (((bT Try.prog 86 = true ∧ fldT Try.prog 86 0 = some (0, 1, false) ∧ fldT Try.prog 86 1 = some (1, 1, false)) ∧ zT Try.prog 87 = false ∧ szT Try.prog 87 = some (1, false) ∧ azT Try.prog 87 = some (1, 1, [.pointer none])) ∧
(arT Try.prog 87 = none ∧ Try.prog.concrete 87 = true ∧ zT Try.prog 88 = false) ∧ szT Try.prog 88 = some (1, false) ∧ arT Try.prog 88 = none ∧ Try.prog.concrete 88 = true) ∧ ((zT Try.prog 89 = false ∧ szT Try.prog 89 = some (1, false) ∧ arT Try.prog 89 = none) ∧
Try.prog.concrete 89 = true ∧ zT Try.prog 90 = false ∧ szT Try.prog 90 = some (1, false)) ∧ (arT Try.prog 90 = none ∧ Try.prog.concrete 90 = true ∧ (Try.prog.underlying 90).isSome = true) ∧ (intT Try.prog 90 = some .u64 ∧ elT Try.prog 90 = none) ∧
azT Try.prog 90 = some (1, 1, [.int .u64 0]) ∧ zeroT Try.prog 90 = some [.int .u64 0]) ∧ ((((zT Try.prog 91 = false ∧ szT Try.prog 91 = some (1, false) ∧ arT Try.prog 91 = none) ∧ Try.prog.concrete 91 = true ∧ (Try.prog.underlying 91).isSome = true ∧
intT Try.prog 91 = some .u64) ∧ (elT Try.prog 91 = none ∧ azT Try.prog 91 = some (1, 1, [.int .u64 0]) ∧ zeroT Try.prog 91 = some [.int .u64 0]) ∧ zT Try.prog 92 = false ∧ szT Try.prog 92 = some (1, false) ∧ arT Try.prog 92 = none) ∧ ((Try.prog.concrete 92 = true ∧
zT Try.prog 93 = false ∧ szT Try.prog 93 = some (101, true)) ∧ Try.prog.concrete 93 = true ∧ (Try.prog.underlying 93).isSome = true ∧ elT Try.prog 93 = none) ∧ (arT Try.prog 93 = some (101, 1, false) ∧ azT Try.prog 93 = some (1, 101, [.bool false]) ∧
zT Try.prog 94 = false) ∧ (szT Try.prog 94 = some (101, true) ∧ Try.prog.concrete 94 = true) ∧ (Try.prog.underlying 94).isSome = true ∧ elT Try.prog 94 = none) ∧ (((arT Try.prog 94 = some (101, 1, false) ∧ azT Try.prog 94 = some (1, 101, [.bool false]) ∧
zT Try.prog 95 = false) ∧ szT Try.prog 95 = some (1, false) ∧ arT Try.prog 95 = none ∧ Try.prog.concrete 95 = true) ∧ (zT Try.prog 96 = false ∧ szT Try.prog 96 = some (1, false) ∧ azT Try.prog 96 = some (1, 1, [.pointer none])) ∧ arT Try.prog 96 = none ∧
Try.prog.concrete 96 = true ∧ zT Try.prog 97 = false) ∧ ((szT Try.prog 97 = some (1, false) ∧ arT Try.prog 97 = none ∧ Try.prog.concrete 97 = true) ∧ zT Try.prog 98 = false ∧ szT Try.prog 98 = some (1, false) ∧ arT Try.prog 98 = none) ∧ (Try.prog.concrete 98 = true ∧
zT Try.prog 99 = false ∧ szT Try.prog 99 = some (2, true)) ∧ (arT Try.prog 99 = none ∧ Try.prog.concrete 99 = true) ∧ (Try.prog.underlying 99).isSome = true ∧ elT Try.prog 99 = none) ∧ ((((((azT Try.prog 99 = some (2, 1, [.nilFunc, .nilFunc]) ∧
zeroT Try.prog 99 = some [.nilFunc, .nilFunc] ∧ bT Try.prog 99 = true) ∧ fldT Try.prog 99 0 = some (0, 1, false) ∧ fldT Try.prog 99 1 = some (1, 1, false) ∧ zT Try.prog 100 = false) ∧ (szT Try.prog 100 = some (2, true) ∧ arT Try.prog 100 = none ∧
Try.prog.concrete 100 = true) ∧ (Try.prog.underlying 100).isSome = true ∧ elT Try.prog 100 = none ∧ azT Try.prog 100 = some (2, 1, [.nilFunc, .nilFunc])) ∧ ((zeroT Try.prog 100 = some [.nilFunc, .nilFunc] ∧ bT Try.prog 100 = true ∧ fldT Try.prog 100 0 = some (0, 1, false)) ∧
fldT Try.prog 100 1 = some (1, 1, false) ∧ zT Try.prog 101 = false ∧ szT Try.prog 101 = some (1, false)) ∧ (arT Try.prog 101 = none ∧ Try.prog.concrete 101 = true ∧ zT Try.prog 102 = false) ∧ (szT Try.prog 102 = some (1, false) ∧ arT Try.prog 102 = none) ∧
Try.prog.concrete 102 = true ∧ zT Try.prog 103 = false) ∧ (((szT Try.prog 103 = some (1, false) ∧ arT Try.prog 103 = none ∧ Try.prog.concrete 103 = true) ∧ zT Try.prog 104 = false ∧ szT Try.prog 104 = some (1, false) ∧ arT Try.prog 104 = none) ∧
(zT Try.prog 105 = false ∧ szT Try.prog 105 = some (1, false) ∧ arT Try.prog 105 = none) ∧ zT Try.prog 106 = false ∧ szT Try.prog 106 = some (9, true) ∧ arT Try.prog 106 = none) ∧ ((Try.prog.concrete 106 = true ∧ (Try.prog.underlying 106).isSome = true ∧
elT Try.prog 106 = none) ∧ azT Try.prog 106 = some (9, 1, [.slice none 0 0, .int .i64 0, .slice none 0 0, .slice none 0 0, .slice none 0 0, .nilIface, .int .i64 0, .int .i64 0, .int .i64 0]) ∧ zeroT Try.prog 106 = some [.slice none 0 0, .int .i64 0, .slice none 0 0, .slice none 0 0, .slice none 0 0, .nilIface, .int .i64 0, .int .i64 0, .int .i64 0] ∧
bT Try.prog 106 = true) ∧ (fldT Try.prog 106 0 = some (0, 5, true) ∧ fldT Try.prog 106 1 = some (5, 1, false) ∧ fldT Try.prog 106 2 = some (6, 2, true)) ∧ (fldT Try.prog 106 3 = some (8, 1, false) ∧ zT Try.prog 107 = false) ∧ szT Try.prog 107 = some (9, true) ∧
arT Try.prog 107 = none) ∧ ((((Try.prog.concrete 107 = true ∧ (Try.prog.underlying 107).isSome = true ∧ elT Try.prog 107 = none) ∧ azT Try.prog 107 = some (9, 1, [.slice none 0 0, .int .i64 0, .slice none 0 0, .slice none 0 0, .slice none 0 0, .nilIface, .int .i64 0, .int .i64 0, .int .i64 0]) ∧
zeroT Try.prog 107 = some [.slice none 0 0, .int .i64 0, .slice none 0 0, .slice none 0 0, .slice none 0 0, .nilIface, .int .i64 0, .int .i64 0, .int .i64 0] ∧ bT Try.prog 107 = true) ∧ (fldT Try.prog 107 0 = some (0, 5, true) ∧ fldT Try.prog 107 1 = some (5, 1, false) ∧
fldT Try.prog 107 2 = some (6, 2, true)) ∧ fldT Try.prog 107 3 = some (8, 1, false) ∧ zT Try.prog 108 = false ∧ szT Try.prog 108 = some (1, false)) ∧ ((arT Try.prog 108 = none ∧ Try.prog.concrete 108 = true ∧ zT Try.prog 109 = false) ∧ szT Try.prog 109 = some (2, true) ∧
arT Try.prog 109 = none ∧ Try.prog.concrete 109 = true) ∧ ((Try.prog.underlying 109).isSome = true ∧ elT Try.prog 109 = none ∧ azT Try.prog 109 = some (2, 1, [.int .i64 0, .int .i64 0])) ∧ (zeroT Try.prog 109 = some [.int .i64 0, .int .i64 0] ∧
bT Try.prog 109 = true) ∧ fldT Try.prog 109 0 = some (0, 1, false) ∧ fldT Try.prog 109 1 = some (1, 1, false)) ∧ (((zT Try.prog 110 = false ∧ szT Try.prog 110 = some (2, true) ∧ arT Try.prog 110 = none) ∧ Try.prog.concrete 110 = true ∧ (Try.prog.underlying 110).isSome = true ∧
elT Try.prog 110 = none) ∧ (azT Try.prog 110 = some (2, 1, [.int .i64 0, .int .i64 0]) ∧ zeroT Try.prog 110 = some [.int .i64 0, .int .i64 0] ∧ bT Try.prog 110 = true) ∧ fldT Try.prog 110 0 = some (0, 1, false) ∧ fldT Try.prog 110 1 = some (1, 1, false) ∧
zT Try.prog 111 = false) ∧ ((szT Try.prog 111 = some (6, true) ∧ Try.prog.concrete 111 = true ∧ (Try.prog.underlying 111).isSome = true) ∧ elT Try.prog 111 = none ∧ arT Try.prog 111 = some (3, 2, true) ∧ azT Try.prog 111 = some (2, 3, [.int .i64 0, .int .i64 0])) ∧
(zeroT Try.prog 111 = some [.int .i64 0, .int .i64 0, .int .i64 0, .int .i64 0, .int .i64 0, .int .i64 0] ∧ zT Try.prog 112 = false ∧ szT Try.prog 112 = some (8, true)) ∧ (arT Try.prog 112 = none ∧ Try.prog.concrete 112 = true) ∧ (Try.prog.underlying 112).isSome = true ∧
elT Try.prog 112 = none) ∧ (((((azT Try.prog 112 = some (8, 1, [.int .i64 0, .int .i64 0, .int .i64 0, .int .i64 0, .int .i64 0, .int .i64 0, .int .i64 0, .int .i64 0]) ∧ zeroT Try.prog 112 = some [.int .i64 0, .int .i64 0, .int .i64 0, .int .i64 0, .int .i64 0, .int .i64 0, .int .i64 0, .int .i64 0] ∧
bT Try.prog 112 = true) ∧ fldT Try.prog 112 0 = some (0, 1, false) ∧ fldT Try.prog 112 1 = some (1, 6, true) ∧ fldT Try.prog 112 2 = some (7, 1, false)) ∧ (zT Try.prog 113 = false ∧ szT Try.prog 113 = some (8, true) ∧ arT Try.prog 113 = none) ∧
Try.prog.concrete 113 = true ∧ (Try.prog.underlying 113).isSome = true ∧ elT Try.prog 113 = none) ∧ ((azT Try.prog 113 = some (8, 1, [.int .i64 0, .int .i64 0, .int .i64 0, .int .i64 0, .int .i64 0, .int .i64 0, .int .i64 0, .int .i64 0]) ∧ zeroT Try.prog 113 = some [.int .i64 0, .int .i64 0, .int .i64 0, .int .i64 0, .int .i64 0, .int .i64 0, .int .i64 0, .int .i64 0] ∧
bT Try.prog 113 = true) ∧ fldT Try.prog 113 0 = some (0, 1, false) ∧ fldT Try.prog 113 1 = some (1, 6, true) ∧ fldT Try.prog 113 2 = some (7, 1, false)) ∧ (zT Try.prog 114 = false ∧ szT Try.prog 114 = some (1, false) ∧ arT Try.prog 114 = none) ∧
(Try.prog.concrete 114 = true ∧ zT Try.prog 116 = false) ∧ szT Try.prog 116 = some (1, false) ∧ arT Try.prog 116 = none) ∧ (((Try.prog.concrete 116 = true ∧ zT Try.prog 117 = false ∧ szT Try.prog 117 = some (8, true)) ∧ Try.prog.concrete 117 = true ∧
(Try.prog.underlying 117).isSome = true ∧ elT Try.prog 117 = none) ∧ (arT Try.prog 117 = some (8, 1, false) ∧ azT Try.prog 117 = some (1, 8, [.int .i64 0]) ∧ zeroT Try.prog 117 = some [.int .i64 0, .int .i64 0, .int .i64 0, .int .i64 0, .int .i64 0, .int .i64 0, .int .i64 0, .int .i64 0]) ∧
zT Try.prog 118 = false ∧ szT Try.prog 118 = some (1, false) ∧ arT Try.prog 118 = none) ∧ ((Try.prog.concrete 118 = true ∧ zT Try.prog 119 = false ∧ szT Try.prog 119 = some (1, false)) ∧ arT Try.prog 119 = none ∧ Try.prog.concrete 119 = true ∧
zT Try.prog 120 = false) ∧ (szT Try.prog 120 = some (1, false) ∧ arT Try.prog 120 = none ∧ Try.prog.concrete 120 = true) ∧ (zT Try.prog 121 = false ∧ szT Try.prog 121 = some (1, false)) ∧ arT Try.prog 121 = none ∧ Try.prog.concrete 121 = true) ∧
((((zT Try.prog 122 = false ∧ szT Try.prog 122 = some (1, false) ∧ arT Try.prog 122 = none) ∧ Try.prog.concrete 122 = true ∧ zT Try.prog 123 = false ∧ szT Try.prog 123 = some (1, false)) ∧ (arT Try.prog 123 = none ∧ Try.prog.concrete 123 = true ∧
zT Try.prog 124 = false) ∧ szT Try.prog 124 = some (1, false) ∧ arT Try.prog 124 = none ∧ Try.prog.concrete 124 = true) ∧ ((zT Try.prog 125 = false ∧ szT Try.prog 125 = some (1, false) ∧ arT Try.prog 125 = none) ∧ Try.prog.concrete 125 = true ∧
zT Try.prog 126 = false ∧ szT Try.prog 126 = some (1, false)) ∧ (arT Try.prog 126 = none ∧ Try.prog.concrete 126 = true ∧ zT Try.prog 127 = true) ∧ (szT Try.prog 127 = some (0, true) ∧ arT Try.prog 127 = none) ∧ Try.prog.concrete 127 = true ∧ (Try.prog.underlying 127).isSome = true) ∧
(((elT Try.prog 127 = none ∧ azT Try.prog 127 = some (0, 1, []) ∧ zeroT Try.prog 127 = some []) ∧ bT Try.prog 127 = true ∧ zT Try.prog 128 = true ∧ szT Try.prog 128 = some (0, true)) ∧ (arT Try.prog 128 = none ∧ Try.prog.concrete 128 = true ∧ (Try.prog.underlying 128).isSome = true) ∧
(elT Try.prog 128 = none ∧ azT Try.prog 128 = some (0, 1, [])) ∧ zeroT Try.prog 128 = some [] ∧ bT Try.prog 128 = true) ∧ ((zT Try.prog 129 = false ∧ szT Try.prog 129 = some (1, false) ∧ arT Try.prog 129 = none) ∧ Try.prog.concrete 129 = true ∧
zT Try.prog 130 = false ∧ szT Try.prog 130 = some (1, false)) ∧ (azT Try.prog 130 = some (1, 1, [.pointer none]) ∧ arT Try.prog 130 = none ∧ Try.prog.concrete 130 = true) ∧ (zT Try.prog 131 = false ∧ szT Try.prog 131 = some (2, true)) ∧ arT Try.prog 131 = none ∧
Try.prog.concrete 131 = true) ∧ (((((((((Try.prog.underlying 131).isSome = true ∧ elT Try.prog 131 = none ∧ azT Try.prog 131 = some (2, 1, [.int .i64 0, .int .i64 0])) ∧ zeroT Try.prog 131 = some [.int .i64 0, .int .i64 0] ∧ bT Try.prog 131 = true ∧
fldT Try.prog 131 0 = some (0, 1, false)) ∧ (fldT Try.prog 131 1 = some (1, 1, false) ∧ zT Try.prog 132 = false ∧ szT Try.prog 132 = some (2, true)) ∧ arT Try.prog 132 = none ∧ Try.prog.concrete 132 = true ∧ (Try.prog.underlying 132).isSome = true) ∧
((elT Try.prog 132 = none ∧ azT Try.prog 132 = some (2, 1, [.int .i64 0, .int .i64 0]) ∧ zeroT Try.prog 132 = some [.int .i64 0, .int .i64 0]) ∧ bT Try.prog 132 = true ∧ fldT Try.prog 132 0 = some (0, 1, false) ∧ fldT Try.prog 132 1 = some (1, 1, false)) ∧
(zT Try.prog 134 = false ∧ szT Try.prog 134 = some (1, false) ∧ arT Try.prog 134 = none) ∧ (Try.prog.concrete 134 = true ∧ zT Try.prog 136 = false) ∧ szT Try.prog 136 = some (1, false) ∧ arT Try.prog 136 = none) ∧ (((Try.prog.concrete 136 = true ∧
zT Try.prog 137 = false ∧ szT Try.prog 137 = some (1, false)) ∧ arT Try.prog 137 = none ∧ Try.prog.concrete 137 = true ∧ zT Try.prog 138 = true) ∧ (szT Try.prog 138 = some (0, true) ∧ arT Try.prog 138 = none ∧ Try.prog.concrete 138 = true) ∧ (Try.prog.underlying 138).isSome = true ∧
elT Try.prog 138 = none ∧ azT Try.prog 138 = some (0, 1, [])) ∧ ((zeroT Try.prog 138 = some [] ∧ bT Try.prog 138 = true ∧ zT Try.prog 139 = false) ∧ szT Try.prog 139 = some (1, false) ∧ arT Try.prog 139 = none ∧ Try.prog.concrete 139 = true) ∧
(zT Try.prog 140 = false ∧ szT Try.prog 140 = some (2, true) ∧ arT Try.prog 140 = none) ∧ (Try.prog.concrete 140 = true ∧ (Try.prog.underlying 140).isSome = true) ∧ elT Try.prog 140 = none ∧ azT Try.prog 140 = some (2, 1, [.int .i64 0, .bool false])) ∧
((((zeroT Try.prog 140 = some [.int .i64 0, .bool false] ∧ bT Try.prog 140 = true ∧ fldT Try.prog 140 0 = some (0, 1, false)) ∧ fldT Try.prog 140 1 = some (1, 1, false) ∧ zT Try.prog 141 = false ∧ szT Try.prog 141 = some (2, true)) ∧ (arT Try.prog 141 = none ∧
Try.prog.concrete 141 = true ∧ (Try.prog.underlying 141).isSome = true) ∧ elT Try.prog 141 = none ∧ azT Try.prog 141 = some (2, 1, [.int .i64 0, .bool false]) ∧ zeroT Try.prog 141 = some [.int .i64 0, .bool false]) ∧ ((bT Try.prog 141 = true ∧
fldT Try.prog 141 0 = some (0, 1, false) ∧ fldT Try.prog 141 1 = some (1, 1, false)) ∧ zT Try.prog 142 = false ∧ szT Try.prog 142 = some (1, false) ∧ arT Try.prog 142 = none) ∧ (Try.prog.concrete 142 = true ∧ zT Try.prog 143 = false ∧ szT Try.prog 143 = some (1, false)) ∧
(arT Try.prog 143 = none ∧ Try.prog.concrete 143 = true) ∧ (Try.prog.underlying 143).isSome = true ∧ elT Try.prog 143 = some (6, true)) ∧ (((elB Try.prog 143 = some (6, 48) ∧ bsT Try.prog 143 = some 6 ∧ mkT Try.prog 143 = some (6, 48, [.int .i64 0, .int .i64 0, .int .i64 0, .int .i64 0, .int .i64 0, .int .i64 0])) ∧
azT Try.prog 143 = some (1, 1, [.slice none 0 0]) ∧ zeroT Try.prog 143 = some [.slice none 0 0] ∧ zT Try.prog 144 = false) ∧ (szT Try.prog 144 = some (1, false) ∧ arT Try.prog 144 = none ∧ Try.prog.concrete 144 = true) ∧ zT Try.prog 145 = false ∧
szT Try.prog 145 = some (6, true) ∧ Try.prog.concrete 145 = true) ∧ (((Try.prog.underlying 145).isSome = true ∧ elT Try.prog 145 = none ∧ arT Try.prog 145 = some (6, 1, false)) ∧ azT Try.prog 145 = some (1, 6, [.int .i64 0]) ∧ zeroT Try.prog 145 = some [.int .i64 0, .int .i64 0, .int .i64 0, .int .i64 0, .int .i64 0, .int .i64 0] ∧
zT Try.prog 146 = false) ∧ (szT Try.prog 146 = some (6, true) ∧ Try.prog.concrete 146 = true ∧ (Try.prog.underlying 146).isSome = true) ∧ (elT Try.prog 146 = none ∧ arT Try.prog 146 = some (6, 1, false)) ∧ azT Try.prog 146 = some (1, 6, [.int .i64 0]) ∧
zeroT Try.prog 146 = some [.int .i64 0, .int .i64 0, .int .i64 0, .int .i64 0, .int .i64 0, .int .i64 0]) ∧ (((((zT Try.prog 147 = false ∧ szT Try.prog 147 = some (1, false) ∧ arT Try.prog 147 = none) ∧ Try.prog.concrete 147 = true ∧ zT Try.prog 148 = false ∧
szT Try.prog 148 = some (1, false)) ∧ (arT Try.prog 148 = none ∧ Try.prog.concrete 148 = true ∧ zT Try.prog 149 = false) ∧ szT Try.prog 149 = some (1, false) ∧ arT Try.prog 149 = none ∧ Try.prog.concrete 149 = true) ∧ ((zT Try.prog 150 = false ∧
szT Try.prog 150 = some (1, false) ∧ arT Try.prog 150 = none) ∧ Try.prog.concrete 150 = true ∧ (Try.prog.underlying 150).isSome = true ∧ intT Try.prog 150 = some .i64) ∧ (elT Try.prog 150 = none ∧ azT Try.prog 150 = some (1, 1, [.int .i64 0]) ∧
zeroT Try.prog 150 = some [.int .i64 0]) ∧ (zT Try.prog 152 = false ∧ szT Try.prog 152 = some (1, false)) ∧ arT Try.prog 152 = none ∧ Try.prog.concrete 152 = true) ∧ (((zT Try.prog 153 = false ∧ szT Try.prog 153 = some (1, false) ∧ arT Try.prog 153 = none) ∧
Try.prog.concrete 153 = true ∧ zT Try.prog 154 = false ∧ szT Try.prog 154 = some (3, true)) ∧ (arT Try.prog 154 = none ∧ Try.prog.concrete 154 = true ∧ (Try.prog.underlying 154).isSome = true) ∧ elT Try.prog 154 = none ∧ azT Try.prog 154 = some (3, 1, [.slice none 0 0, .slice none 0 0, .map none]) ∧
zeroT Try.prog 154 = some [.slice none 0 0, .slice none 0 0, .map none]) ∧ ((bT Try.prog 154 = true ∧ fldT Try.prog 154 0 = some (0, 2, true) ∧ fldT Try.prog 154 1 = some (2, 1, false)) ∧ zT Try.prog 155 = false ∧ szT Try.prog 155 = some (3, true) ∧
arT Try.prog 155 = none) ∧ (Try.prog.concrete 155 = true ∧ (Try.prog.underlying 155).isSome = true ∧ elT Try.prog 155 = none) ∧ (azT Try.prog 155 = some (3, 1, [.slice none 0 0, .slice none 0 0, .map none]) ∧ zeroT Try.prog 155 = some [.slice none 0 0, .slice none 0 0, .map none]) ∧
bT Try.prog 155 = true ∧ fldT Try.prog 155 0 = some (0, 2, true)) ∧ ((((fldT Try.prog 155 1 = some (2, 1, false) ∧ zT Try.prog 156 = false ∧ szT Try.prog 156 = some (1, false)) ∧ arT Try.prog 156 = none ∧ Try.prog.concrete 156 = true ∧ zT Try.prog 157 = false) ∧
(szT Try.prog 157 = some (1, true) ∧ arT Try.prog 157 = none ∧ Try.prog.concrete 157 = true) ∧ (Try.prog.underlying 157).isSome = true ∧ elT Try.prog 157 = none ∧ azT Try.prog 157 = some (1, 1, [.int .i64 0])) ∧ ((zeroT Try.prog 157 = some [.int .i64 0] ∧
bT Try.prog 157 = true ∧ fldT Try.prog 157 0 = some (0, 1, false)) ∧ zT Try.prog 158 = false ∧ szT Try.prog 158 = some (1, true) ∧ arT Try.prog 158 = none) ∧ (Try.prog.concrete 158 = true ∧ (Try.prog.underlying 158).isSome = true ∧ elT Try.prog 158 = none) ∧
(azT Try.prog 158 = some (1, 1, [.int .i64 0]) ∧ zeroT Try.prog 158 = some [.int .i64 0]) ∧ bT Try.prog 158 = true ∧ fldT Try.prog 158 0 = some (0, 1, false)) ∧ (((zT Try.prog 159 = false ∧ szT Try.prog 159 = some (2, true) ∧ arT Try.prog 159 = none) ∧
Try.prog.concrete 159 = true ∧ (Try.prog.underlying 159).isSome = true ∧ elT Try.prog 159 = none) ∧ (azT Try.prog 159 = some (2, 1, [.int .i64 0, .int .i64 0]) ∧ zeroT Try.prog 159 = some [.int .i64 0, .int .i64 0] ∧ bT Try.prog 159 = true) ∧ fldT Try.prog 159 0 = some (0, 1, true) ∧
fldT Try.prog 159 1 = some (1, 1, false) ∧ zT Try.prog 160 = false) ∧ ((szT Try.prog 160 = some (2, true) ∧ arT Try.prog 160 = none ∧ Try.prog.concrete 160 = true) ∧ (Try.prog.underlying 160).isSome = true ∧ elT Try.prog 160 = none ∧ azT Try.prog 160 = some (2, 1, [.int .i64 0, .int .i64 0])) ∧
(zeroT Try.prog 160 = some [.int .i64 0, .int .i64 0] ∧ bT Try.prog 160 = true ∧ fldT Try.prog 160 0 = some (0, 1, true)) ∧ (fldT Try.prog 160 1 = some (1, 1, false) ∧ zT Try.prog 161 = false) ∧ szT Try.prog 161 = some (1, false) ∧ arT Try.prog 161 = none) ∧
((((((Try.prog.concrete 161 = true ∧ zT Try.prog 162 = false ∧ szT Try.prog 162 = some (1, true)) ∧ arT Try.prog 162 = none ∧ Try.prog.concrete 162 = true ∧ (Try.prog.underlying 162).isSome = true) ∧ (elT Try.prog 162 = none ∧ azT Try.prog 162 = some (1, 1, [.int .i64 0]) ∧
zeroT Try.prog 162 = some [.int .i64 0]) ∧ bT Try.prog 162 = true ∧ fldT Try.prog 162 0 = some (0, 1, false) ∧ zT Try.prog 163 = false) ∧ ((szT Try.prog 163 = some (1, true) ∧ arT Try.prog 163 = none ∧ Try.prog.concrete 163 = true) ∧ (Try.prog.underlying 163).isSome = true ∧
elT Try.prog 163 = none ∧ azT Try.prog 163 = some (1, 1, [.int .i64 0])) ∧ (zeroT Try.prog 163 = some [.int .i64 0] ∧ bT Try.prog 163 = true ∧ fldT Try.prog 163 0 = some (0, 1, false)) ∧ (zT Try.prog 165 = false ∧ szT Try.prog 165 = some (1, false)) ∧
arT Try.prog 165 = none ∧ Try.prog.concrete 165 = true) ∧ (((zT Try.prog 166 = false ∧ szT Try.prog 166 = some (4, true) ∧ arT Try.prog 166 = none) ∧ Try.prog.concrete 166 = true ∧ (Try.prog.underlying 166).isSome = true ∧ elT Try.prog 166 = none) ∧
(azT Try.prog 166 = some (4, 1, [.slice none 0 0, .slice none 0 0, .slice none 0 0, .map none]) ∧ zeroT Try.prog 166 = some [.slice none 0 0, .slice none 0 0, .slice none 0 0, .map none] ∧ bT Try.prog 166 = true) ∧ fldT Try.prog 166 0 = some (0, 2, true) ∧
fldT Try.prog 166 1 = some (2, 1, false) ∧ fldT Try.prog 166 2 = some (3, 1, false)) ∧ ((zT Try.prog 167 = false ∧ szT Try.prog 167 = some (4, true) ∧ arT Try.prog 167 = none) ∧ Try.prog.concrete 167 = true ∧ (Try.prog.underlying 167).isSome = true ∧
elT Try.prog 167 = none) ∧ (azT Try.prog 167 = some (4, 1, [.slice none 0 0, .slice none 0 0, .slice none 0 0, .map none]) ∧ zeroT Try.prog 167 = some [.slice none 0 0, .slice none 0 0, .slice none 0 0, .map none] ∧ bT Try.prog 167 = true) ∧ (fldT Try.prog 167 0 = some (0, 2, true) ∧
fldT Try.prog 167 1 = some (2, 1, false)) ∧ fldT Try.prog 167 2 = some (3, 1, false) ∧ zT Try.prog 168 = false) ∧ ((((szT Try.prog 168 = some (1, false) ∧ arT Try.prog 168 = none ∧ Try.prog.concrete 168 = true) ∧ zT Try.prog 169 = false ∧ szT Try.prog 169 = some (1, false) ∧
arT Try.prog 169 = none) ∧ (Try.prog.concrete 169 = true ∧ zT Try.prog 170 = false ∧ szT Try.prog 170 = some (1, false)) ∧ arT Try.prog 170 = none ∧ Try.prog.concrete 170 = true ∧ zT Try.prog 171 = false) ∧ ((szT Try.prog 171 = some (1, false) ∧
arT Try.prog 171 = none ∧ Try.prog.concrete 171 = true) ∧ zT Try.prog 173 = false ∧ szT Try.prog 173 = some (1, false) ∧ arT Try.prog 173 = none) ∧ (Try.prog.concrete 173 = true ∧ zT Try.prog 174 = false ∧ szT Try.prog 174 = some (1, false)) ∧
(arT Try.prog 174 = none ∧ Try.prog.concrete 174 = true) ∧ zT Try.prog 175 = false ∧ szT Try.prog 175 = some (1, false)) ∧ (((arT Try.prog 175 = none ∧ Try.prog.concrete 175 = true ∧ (Try.prog.underlying 175).isSome = true) ∧ intT Try.prog 175 = some .i64 ∧
elT Try.prog 175 = none ∧ azT Try.prog 175 = some (1, 1, [.int .i64 0])) ∧ (zeroT Try.prog 175 = some [.int .i64 0] ∧ zT Try.prog 177 = false ∧ szT Try.prog 177 = some (1, false)) ∧ arT Try.prog 177 = none ∧ Try.prog.concrete 177 = true ∧ zT Try.prog 178 = true) ∧
((szT Try.prog 178 = some (0, true) ∧ arT Try.prog 178 = none ∧ Try.prog.concrete 178 = true) ∧ (Try.prog.underlying 178).isSome = true ∧ elT Try.prog 178 = none ∧ azT Try.prog 178 = some (0, 1, [])) ∧ (zeroT Try.prog 178 = some [] ∧ bT Try.prog 178 = true ∧
zT Try.prog 179 = false) ∧ (szT Try.prog 179 = some (1, false) ∧ arT Try.prog 179 = none) ∧ Try.prog.concrete 179 = true ∧ zT Try.prog 180 = false) ∧ (((((szT Try.prog 180 = some (2, true) ∧ arT Try.prog 180 = none ∧ Try.prog.concrete 180 = true) ∧
(Try.prog.underlying 180).isSome = true ∧ elT Try.prog 180 = none ∧ azT Try.prog 180 = some (2, 1, [.int .i64 0, .bool false])) ∧ (zeroT Try.prog 180 = some [.int .i64 0, .bool false] ∧ bT Try.prog 180 = true ∧ fldT Try.prog 180 0 = some (0, 1, false)) ∧
fldT Try.prog 180 1 = some (1, 1, false) ∧ zT Try.prog 181 = false ∧ szT Try.prog 181 = some (2, true)) ∧ ((arT Try.prog 181 = none ∧ Try.prog.concrete 181 = true ∧ (Try.prog.underlying 181).isSome = true) ∧ elT Try.prog 181 = none ∧ azT Try.prog 181 = some (2, 1, [.int .i64 0, .bool false]) ∧
zeroT Try.prog 181 = some [.int .i64 0, .bool false]) ∧ (bT Try.prog 181 = true ∧ fldT Try.prog 181 0 = some (0, 1, false) ∧ fldT Try.prog 181 1 = some (1, 1, false)) ∧ (zT Try.prog 183 = false ∧ szT Try.prog 183 = some (1, false)) ∧ arT Try.prog 183 = none ∧
Try.prog.concrete 183 = true) ∧ (((zT Try.prog 184 = false ∧ szT Try.prog 184 = some (1, false) ∧ arT Try.prog 184 = none) ∧ Try.prog.concrete 184 = true ∧ zT Try.prog 185 = false ∧ szT Try.prog 185 = some (1, false)) ∧ (arT Try.prog 185 = none ∧
Try.prog.concrete 185 = true ∧ zT Try.prog 186 = false) ∧ szT Try.prog 186 = some (1, false) ∧ arT Try.prog 186 = none ∧ Try.prog.concrete 186 = true) ∧ ((zT Try.prog 187 = false ∧ szT Try.prog 187 = some (1, false) ∧ arT Try.prog 187 = none) ∧
Try.prog.concrete 187 = true ∧ zT Try.prog 188 = false ∧ szT Try.prog 188 = some (1, false)) ∧ (arT Try.prog 188 = none ∧ Try.prog.concrete 188 = true ∧ zT Try.prog 189 = false) ∧ (szT Try.prog 189 = some (1, true) ∧ arT Try.prog 189 = none) ∧
Try.prog.concrete 189 = true ∧ (Try.prog.underlying 189).isSome = true) ∧ ((((elT Try.prog 189 = none ∧ azT Try.prog 189 = some (1, 1, [.int .i64 0]) ∧ zeroT Try.prog 189 = some [.int .i64 0]) ∧ bT Try.prog 189 = true ∧ fldT Try.prog 189 0 = some (0, 1, false) ∧
zT Try.prog 190 = false) ∧ (szT Try.prog 190 = some (1, true) ∧ arT Try.prog 190 = none ∧ Try.prog.concrete 190 = true) ∧ (Try.prog.underlying 190).isSome = true ∧ elT Try.prog 190 = none ∧ azT Try.prog 190 = some (1, 1, [.int .i64 0])) ∧ ((zeroT Try.prog 190 = some [.int .i64 0] ∧
bT Try.prog 190 = true ∧ fldT Try.prog 190 0 = some (0, 1, false)) ∧ zT Try.prog 192 = false ∧ szT Try.prog 192 = some (1, false) ∧ arT Try.prog 192 = none) ∧ (Try.prog.concrete 192 = true ∧ zT Try.prog 193 = false ∧ szT Try.prog 193 = some (6, true)) ∧
(Try.prog.concrete 193 = true ∧ (Try.prog.underlying 193).isSome = true) ∧ elT Try.prog 193 = none ∧ arT Try.prog 193 = some (6, 1, false)) ∧ (((azT Try.prog 193 = some (1, 6, [.int .i64 0]) ∧ zeroT Try.prog 193 = some [.int .i64 0, .int .i64 0, .int .i64 0, .int .i64 0, .int .i64 0, .int .i64 0] ∧
zT Try.prog 194 = false) ∧ szT Try.prog 194 = some (8, true) ∧ arT Try.prog 194 = none ∧ Try.prog.concrete 194 = true) ∧ ((Try.prog.underlying 194).isSome = true ∧ elT Try.prog 194 = none ∧ azT Try.prog 194 = some (8, 1, [.int .i64 0, .int .i64 0, .int .i64 0, .int .i64 0, .int .i64 0, .int .i64 0, .int .i64 0, .slice none 0 0])) ∧
(zeroT Try.prog 194 = some [.int .i64 0, .int .i64 0, .int .i64 0, .int .i64 0, .int .i64 0, .int .i64 0, .int .i64 0, .slice none 0 0] ∧ bT Try.prog 194 = true) ∧ fldT Try.prog 194 0 = some (0, 6, true) ∧ fldT Try.prog 194 1 = some (6, 1, false)) ∧
((fldT Try.prog 194 2 = some (7, 1, false) ∧ zT Try.prog 195 = false ∧ szT Try.prog 195 = some (8, true)) ∧ arT Try.prog 195 = none ∧ Try.prog.concrete 195 = true ∧ (Try.prog.underlying 195).isSome = true) ∧ (elT Try.prog 195 = none ∧ azT Try.prog 195 = some (8, 1, [.int .i64 0, .int .i64 0, .int .i64 0, .int .i64 0, .int .i64 0, .int .i64 0, .int .i64 0, .slice none 0 0]) ∧
zeroT Try.prog 195 = some [.int .i64 0, .int .i64 0, .int .i64 0, .int .i64 0, .int .i64 0, .int .i64 0, .int .i64 0, .slice none 0 0]) ∧ (bT Try.prog 195 = true ∧ fldT Try.prog 195 0 = some (0, 6, true)) ∧ fldT Try.prog 195 1 = some (6, 1, false) ∧
fldT Try.prog 195 2 = some (7, 1, false)) ∧ (((((((zT Try.prog 196 = false ∧ szT Try.prog 196 = some (1, false) ∧ arT Try.prog 196 = none) ∧ Try.prog.concrete 196 = true ∧ zT Try.prog 197 = false ∧ szT Try.prog 197 = some (1, false)) ∧ (arT Try.prog 197 = none ∧
zT Try.prog 198 = false ∧ szT Try.prog 198 = some (1, false)) ∧ arT Try.prog 198 = none ∧ zT Try.prog 199 = false ∧ szT Try.prog 199 = some (1, false)) ∧ ((arT Try.prog 199 = none ∧ Try.prog.concrete 199 = true ∧ zT Try.prog 200 = false) ∧ szT Try.prog 200 = some (1, false) ∧
arT Try.prog 200 = none ∧ Try.prog.concrete 200 = true) ∧ (zT Try.prog 201 = false ∧ szT Try.prog 201 = some (2, true) ∧ arT Try.prog 201 = none) ∧ (Try.prog.concrete 201 = true ∧ (Try.prog.underlying 201).isSome = true) ∧ elT Try.prog 201 = none ∧
azT Try.prog 201 = some (2, 1, [.int .i64 0, .int .i64 0])) ∧ (((zeroT Try.prog 201 = some [.int .i64 0, .int .i64 0] ∧ bT Try.prog 201 = true ∧ fldT Try.prog 201 0 = some (0, 1, false)) ∧ fldT Try.prog 201 1 = some (1, 1, false) ∧ zT Try.prog 202 = false ∧
szT Try.prog 202 = some (2, true)) ∧ (arT Try.prog 202 = none ∧ Try.prog.concrete 202 = true ∧ (Try.prog.underlying 202).isSome = true) ∧ elT Try.prog 202 = none ∧ azT Try.prog 202 = some (2, 1, [.int .i64 0, .int .i64 0]) ∧ zeroT Try.prog 202 = some [.int .i64 0, .int .i64 0]) ∧
((bT Try.prog 202 = true ∧ fldT Try.prog 202 0 = some (0, 1, false) ∧ fldT Try.prog 202 1 = some (1, 1, false)) ∧ zT Try.prog 204 = false ∧ szT Try.prog 204 = some (1, false) ∧ arT Try.prog 204 = none) ∧ (Try.prog.concrete 204 = true ∧ zT Try.prog 205 = false ∧
szT Try.prog 205 = some (4, true)) ∧ (arT Try.prog 205 = none ∧ Try.prog.concrete 205 = true) ∧ (Try.prog.underlying 205).isSome = true ∧ elT Try.prog 205 = none) ∧ ((((azT Try.prog 205 = some (4, 1, [.bool false, .int .i64 0, .int .i64 0, .nilFunc]) ∧
zeroT Try.prog 205 = some [.bool false, .int .i64 0, .int .i64 0, .nilFunc] ∧ bT Try.prog 205 = true) ∧ fldT Try.prog 205 0 = some (0, 1, false) ∧ fldT Try.prog 205 1 = some (1, 1, false) ∧ fldT Try.prog 205 2 = some (2, 1, false)) ∧ (fldT Try.prog 205 3 = some (3, 1, false) ∧
zT Try.prog 206 = false ∧ szT Try.prog 206 = some (4, true)) ∧ arT Try.prog 206 = none ∧ Try.prog.concrete 206 = true ∧ (Try.prog.underlying 206).isSome = true) ∧ ((elT Try.prog 206 = none ∧ azT Try.prog 206 = some (4, 1, [.bool false, .int .i64 0, .int .i64 0, .nilFunc]) ∧
zeroT Try.prog 206 = some [.bool false, .int .i64 0, .int .i64 0, .nilFunc]) ∧ bT Try.prog 206 = true ∧ fldT Try.prog 206 0 = some (0, 1, false) ∧ fldT Try.prog 206 1 = some (1, 1, false)) ∧ (fldT Try.prog 206 2 = some (2, 1, false) ∧ fldT Try.prog 206 3 = some (3, 1, false) ∧
zT Try.prog 207 = false) ∧ (szT Try.prog 207 = some (1, false) ∧ arT Try.prog 207 = none) ∧ Try.prog.concrete 207 = true ∧ zT Try.prog 208 = false) ∧ (((szT Try.prog 208 = some (1, false) ∧ arT Try.prog 208 = none ∧ Try.prog.concrete 208 = true) ∧
zT Try.prog 209 = false ∧ szT Try.prog 209 = some (1, false) ∧ arT Try.prog 209 = none) ∧ (Try.prog.concrete 209 = true ∧ zT Try.prog 210 = false ∧ szT Try.prog 210 = some (1, false)) ∧ arT Try.prog 210 = none ∧ Try.prog.concrete 210 = true ∧ zT Try.prog 211 = false) ∧
((szT Try.prog 211 = some (1, false) ∧ arT Try.prog 211 = none ∧ Try.prog.concrete 211 = true) ∧ zT Try.prog 212 = false ∧ szT Try.prog 212 = some (1, false) ∧ arT Try.prog 212 = none) ∧ (Try.prog.concrete 212 = true ∧ zT Try.prog 213 = false ∧
szT Try.prog 213 = some (1, false)) ∧ (arT Try.prog 213 = none ∧ Try.prog.concrete 213 = true) ∧ zT Try.prog 214 = false ∧ szT Try.prog 214 = some (1, false)) ∧ (((((arT Try.prog 214 = none ∧ Try.prog.concrete 214 = true ∧ zT Try.prog 215 = false) ∧
szT Try.prog 215 = some (1, false) ∧ arT Try.prog 215 = none ∧ Try.prog.concrete 215 = true) ∧ (zT Try.prog 216 = false ∧ szT Try.prog 216 = some (5, true) ∧ arT Try.prog 216 = none) ∧ Try.prog.concrete 216 = true ∧ (Try.prog.underlying 216).isSome = true ∧
elT Try.prog 216 = none) ∧ ((azT Try.prog 216 = some (5, 1, [.int .i64 0, .int .i64 0, .int .i64 0, .int .i64 0, .int .i64 0]) ∧ zeroT Try.prog 216 = some [.int .i64 0, .int .i64 0, .int .i64 0, .int .i64 0, .int .i64 0] ∧ bT Try.prog 216 = true) ∧
fldT Try.prog 216 0 = some (0, 5, true) ∧ zT Try.prog 217 = false ∧ szT Try.prog 217 = some (5, true)) ∧ (arT Try.prog 217 = none ∧ Try.prog.concrete 217 = true ∧ (Try.prog.underlying 217).isSome = true) ∧ (elT Try.prog 217 = none ∧ azT Try.prog 217 = some (5, 1, [.int .i64 0, .int .i64 0, .int .i64 0, .int .i64 0, .int .i64 0])) ∧
zeroT Try.prog 217 = some [.int .i64 0, .int .i64 0, .int .i64 0, .int .i64 0, .int .i64 0] ∧ bT Try.prog 217 = true) ∧ (((fldT Try.prog 217 0 = some (0, 5, true) ∧ zT Try.prog 218 = false ∧ szT Try.prog 218 = some (1, false)) ∧ arT Try.prog 218 = none ∧
Try.prog.concrete 218 = true ∧ zT Try.prog 219 = false) ∧ (szT Try.prog 219 = some (1, false) ∧ arT Try.prog 219 = none ∧ Try.prog.concrete 219 = true) ∧ zT Try.prog 220 = false ∧ szT Try.prog 220 = some (1, false) ∧ arT Try.prog 220 = none) ∧
((Try.prog.concrete 220 = true ∧ zT Try.prog 221 = false ∧ szT Try.prog 221 = some (1, false)) ∧ azT Try.prog 221 = some (1, 1, [.pointer none]) ∧ arT Try.prog 221 = none ∧ Try.prog.concrete 221 = true) ∧ (zT Try.prog 222 = false ∧ szT Try.prog 222 = some (1, false) ∧
arT Try.prog 222 = none) ∧ (Try.prog.concrete 222 = true ∧ zT Try.prog 223 = false) ∧ szT Try.prog 223 = some (1, false) ∧ arT Try.prog 223 = none) ∧ ((((Try.prog.concrete 223 = true ∧ (Try.prog.underlying 223).isSome = true ∧ elT Try.prog 223 = some (1, false)) ∧
elB Try.prog 223 = some (1, 16) ∧ bsT Try.prog 223 = some 1 ∧ mkT Try.prog 223 = some (1, 16, [.nilIface])) ∧ (azT Try.prog 223 = some (1, 1, [.slice none 0 0]) ∧ zeroT Try.prog 223 = some [.slice none 0 0] ∧ zT Try.prog 224 = false) ∧ szT Try.prog 224 = some (1, false) ∧
arT Try.prog 224 = none ∧ Try.prog.concrete 224 = true) ∧ ((zT Try.prog 225 = false ∧ szT Try.prog 225 = some (1, false) ∧ arT Try.prog 225 = none) ∧ Try.prog.concrete 225 = true ∧ zT Try.prog 226 = false ∧ szT Try.prog 226 = some (1, false)) ∧
(arT Try.prog 226 = none ∧ Try.prog.concrete 226 = true ∧ zT Try.prog 227 = false) ∧ (szT Try.prog 227 = some (1, false) ∧ arT Try.prog 227 = none) ∧ zT Try.prog 228 = false ∧ szT Try.prog 228 = some (1, false)) ∧ (((arT Try.prog 228 = none ∧ zT Try.prog 229 = false ∧
szT Try.prog 229 = some (1, false)) ∧ arT Try.prog 229 = none ∧ Try.prog.concrete 229 = true ∧ zT Try.prog 230 = false) ∧ (szT Try.prog 230 = some (1, false) ∧ arT Try.prog 230 = none ∧ Try.prog.concrete 230 = true) ∧ (zT Try.prog 231 = false ∧
szT Try.prog 231 = some (1, false)) ∧ arT Try.prog 231 = none ∧ Try.prog.concrete 231 = true) ∧ ((zT Try.prog 232 = false ∧ szT Try.prog 232 = some (1, false) ∧ arT Try.prog 232 = none) ∧ zT Try.prog 233 = false ∧ szT Try.prog 233 = some (1, false) ∧
arT Try.prog 233 = none) ∧ (zT Try.prog 234 = false ∧ szT Try.prog 234 = some (1, false) ∧ arT Try.prog 234 = none) ∧ (Try.prog.concrete 234 = true ∧ zT Try.prog 235 = false) ∧ szT Try.prog 235 = some (1, false) ∧ arT Try.prog 235 = none) ∧ ((((((Try.prog.concrete 235 = true ∧
zT Try.prog 236 = true ∧ szT Try.prog 236 = some (0, true)) ∧ arT Try.prog 236 = none ∧ Try.prog.concrete 236 = true ∧ (Try.prog.underlying 236).isSome = true) ∧ (elT Try.prog 236 = none ∧ azT Try.prog 236 = some (0, 1, []) ∧ zeroT Try.prog 236 = some []) ∧
bT Try.prog 236 = true ∧ zT Try.prog 237 = false ∧ szT Try.prog 237 = some (1, true)) ∧ ((arT Try.prog 237 = none ∧ Try.prog.concrete 237 = true ∧ (Try.prog.underlying 237).isSome = true) ∧ elT Try.prog 237 = none ∧ azT Try.prog 237 = some (1, 1, [.int .u64 0]) ∧
zeroT Try.prog 237 = some [.int .u64 0]) ∧ (bT Try.prog 237 = true ∧ fldT Try.prog 237 0 = some (0, 1, false) ∧ zT Try.prog 238 = false) ∧ (szT Try.prog 238 = some (1, true) ∧ arT Try.prog 238 = none) ∧ Try.prog.concrete 238 = true ∧ (Try.prog.underlying 238).isSome = true) ∧
(((elT Try.prog 238 = none ∧ azT Try.prog 238 = some (1, 1, [.int .u64 0]) ∧ zeroT Try.prog 238 = some [.int .u64 0]) ∧ bT Try.prog 238 = true ∧ fldT Try.prog 238 0 = some (0, 1, false) ∧ zT Try.prog 239 = false) ∧ (szT Try.prog 239 = some (3, true) ∧
arT Try.prog 239 = none ∧ Try.prog.concrete 239 = true) ∧ (Try.prog.underlying 239).isSome = true ∧ elT Try.prog 239 = none ∧ azT Try.prog 239 = some (3, 1, [.int .u64 0, .int .i64 0, .int .i64 0])) ∧ ((zeroT Try.prog 239 = some [.int .u64 0, .int .i64 0, .int .i64 0] ∧
bT Try.prog 239 = true ∧ fldT Try.prog 239 0 = some (0, 1, true)) ∧ fldT Try.prog 239 1 = some (1, 2, true) ∧ zT Try.prog 240 = false ∧ szT Try.prog 240 = some (3, true)) ∧ (arT Try.prog 240 = none ∧ Try.prog.concrete 240 = true ∧ (Try.prog.underlying 240).isSome = true) ∧
(elT Try.prog 240 = none ∧ azT Try.prog 240 = some (3, 1, [.int .u64 0, .int .i64 0, .int .i64 0])) ∧ zeroT Try.prog 240 = some [.int .u64 0, .int .i64 0, .int .i64 0] ∧ bT Try.prog 240 = true) ∧ ((((fldT Try.prog 240 0 = some (0, 1, true) ∧ fldT Try.prog 240 1 = some (1, 2, true) ∧
zT Try.prog 241 = false) ∧ szT Try.prog 241 = some (1, false) ∧ arT Try.prog 241 = none ∧ Try.prog.concrete 241 = true) ∧ (zT Try.prog 242 = false ∧ szT Try.prog 242 = some (1, false) ∧ arT Try.prog 242 = none) ∧ Try.prog.concrete 242 = true ∧
(Try.prog.underlying 242).isSome = true ∧ intT Try.prog 242 = some .i64) ∧ ((elT Try.prog 242 = none ∧ azT Try.prog 242 = some (1, 1, [.int .i64 0]) ∧ zeroT Try.prog 242 = some [.int .i64 0]) ∧ zT Try.prog 244 = false ∧ szT Try.prog 244 = some (1, false) ∧
arT Try.prog 244 = none) ∧ (Try.prog.concrete 244 = true ∧ zT Try.prog 245 = false ∧ szT Try.prog 245 = some (1, false)) ∧ (arT Try.prog 245 = none ∧ Try.prog.concrete 245 = true) ∧ zT Try.prog 246 = false ∧ szT Try.prog 246 = some (1, false)) ∧
(((arT Try.prog 246 = none ∧ Try.prog.concrete 246 = true ∧ zT Try.prog 247 = false) ∧ szT Try.prog 247 = some (1, false) ∧ arT Try.prog 247 = none ∧ Try.prog.concrete 247 = true) ∧ (zT Try.prog 248 = false ∧ szT Try.prog 248 = some (1, false) ∧
arT Try.prog 248 = none) ∧ Try.prog.concrete 248 = true ∧ zT Try.prog 249 = false ∧ szT Try.prog 249 = some (1, false)) ∧ ((arT Try.prog 249 = none ∧ Try.prog.concrete 249 = true ∧ (Try.prog.underlying 249).isSome = true) ∧ intT Try.prog 249 = some .u32 ∧
elT Try.prog 249 = none ∧ azT Try.prog 249 = some (1, 1, [.int .u32 0])) ∧ (zeroT Try.prog 249 = some [.int .u32 0] ∧ zT Try.prog 250 = false ∧ szT Try.prog 250 = some (1, false)) ∧ (arT Try.prog 250 = none ∧ Try.prog.concrete 250 = true) ∧ zT Try.prog 251 = false ∧
szT Try.prog 251 = some (1, false)) ∧ (((((arT Try.prog 251 = none ∧ Try.prog.concrete 251 = true ∧ (Try.prog.underlying 251).isSome = true) ∧ intT Try.prog 251 = some .u64 ∧ elT Try.prog 251 = none ∧ azT Try.prog 251 = some (1, 1, [.int .u64 0])) ∧
(zeroT Try.prog 251 = some [.int .u64 0] ∧ zT Try.prog 252 = false ∧ szT Try.prog 252 = some (1, false)) ∧ arT Try.prog 252 = none ∧ Try.prog.concrete 252 = true ∧ (Try.prog.underlying 252).isSome = true) ∧ ((intT Try.prog 252 = some .u64 ∧ elT Try.prog 252 = none ∧
azT Try.prog 252 = some (1, 1, [.int .u64 0])) ∧ zeroT Try.prog 252 = some [.int .u64 0] ∧ zT Try.prog 253 = false ∧ szT Try.prog 253 = some (1, false)) ∧ (arT Try.prog 253 = none ∧ Try.prog.concrete 253 = true ∧ zT Try.prog 254 = false) ∧ (szT Try.prog 254 = some (1, false) ∧
arT Try.prog 254 = none) ∧ Try.prog.concrete 254 = true ∧ zT Try.prog 255 = false) ∧ (((szT Try.prog 255 = some (1, false) ∧ arT Try.prog 255 = none ∧ Try.prog.concrete 255 = true) ∧ zT Try.prog 256 = false ∧ szT Try.prog 256 = some (1, false) ∧
azT Try.prog 256 = some (1, 1, [.pointer none])) ∧ (arT Try.prog 256 = none ∧ Try.prog.concrete 256 = true ∧ zT Try.prog 257 = false) ∧ szT Try.prog 257 = some (1, false) ∧ arT Try.prog 257 = none ∧ Try.prog.concrete 257 = true) ∧ ((zT Try.prog 258 = false ∧
szT Try.prog 258 = some (1, false) ∧ azT Try.prog 258 = some (1, 1, [.pointer none])) ∧ arT Try.prog 258 = none ∧ Try.prog.concrete 258 = true ∧ zT Try.prog 259 = false) ∧ (szT Try.prog 259 = some (1, false) ∧ arT Try.prog 259 = none ∧ Try.prog.concrete 259 = true) ∧
(zT Try.prog 260 = false ∧ szT Try.prog 260 = some (1, false)) ∧ arT Try.prog 260 = none ∧ Try.prog.concrete 260 = true) ∧ ((((zT Try.prog 266 = false ∧ szT Try.prog 266 = some (1, false) ∧ arT Try.prog 266 = none) ∧ Try.prog.concrete 266 = true ∧
zT Try.prog 269 = false ∧ szT Try.prog 269 = some (1, false)) ∧ (arT Try.prog 269 = none ∧ Try.prog.concrete 269 = true ∧ zT Try.prog 270 = false) ∧ szT Try.prog 270 = some (1, false) ∧ azT Try.prog 270 = some (1, 1, [.pointer none]) ∧ arT Try.prog 270 = none) ∧
((Try.prog.concrete 270 = true ∧ zT Try.prog 275 = false ∧ szT Try.prog 275 = some (1, false)) ∧ arT Try.prog 275 = none ∧ Try.prog.concrete 275 = true ∧ zT Try.prog 276 = false) ∧ (szT Try.prog 276 = some (6, true) ∧ arT Try.prog 276 = none ∧
Try.prog.concrete 276 = true) ∧ ((Try.prog.underlying 276).isSome = true ∧ elT Try.prog 276 = none) ∧ azT Try.prog 276 = some (6, 1, [.int .i64 0, .int .i64 0, .int .i64 0, .int .i64 0, .int .i64 0, .int .i64 0]) ∧ zeroT Try.prog 276 = some [.int .i64 0, .int .i64 0, .int .i64 0, .int .i64 0, .int .i64 0, .int .i64 0]) ∧
(((bT Try.prog 276 = true ∧ fldT Try.prog 276 0 = some (0, 5, true) ∧ fldT Try.prog 276 1 = some (5, 1, false)) ∧ zT Try.prog 277 = false ∧ szT Try.prog 277 = some (6, true) ∧ arT Try.prog 277 = none) ∧ (Try.prog.concrete 277 = true ∧ (Try.prog.underlying 277).isSome = true ∧
elT Try.prog 277 = none) ∧ (azT Try.prog 277 = some (6, 1, [.int .i64 0, .int .i64 0, .int .i64 0, .int .i64 0, .int .i64 0, .int .i64 0]) ∧ zeroT Try.prog 277 = some [.int .i64 0, .int .i64 0, .int .i64 0, .int .i64 0, .int .i64 0, .int .i64 0]) ∧
bT Try.prog 277 = true ∧ fldT Try.prog 277 0 = some (0, 5, true)) ∧ ((fldT Try.prog 277 1 = some (5, 1, false) ∧ zT Try.prog 278 = false ∧ szT Try.prog 278 = some (1, false)) ∧ arT Try.prog 278 = none ∧ Try.prog.concrete 278 = true ∧ zT Try.prog 279 = false) ∧
(szT Try.prog 279 = some (1, false) ∧ arT Try.prog 279 = none ∧ Try.prog.concrete 279 = true) ∧ ((Try.prog.underlying 279).isSome = true ∧ elT Try.prog 279 = none) ∧ azT Try.prog 279 = some (1, 1, [.pointer none]) ∧ zeroT Try.prog 279 = some [.pointer none] := by
 and_intros <;> kernel_rfl

end Go.Proofs.Ytclkjifgipcamaa
end
section
set_option linter.unusedVariables false
set_option linter.unusedSimpArgs false
namespace Go.V
set_option linter.unusedSectionVars false
variable [Inhabited GivT]
theorem mapM_move {α β : Type} {f g : α → Option β} {Q : β → Prop} : ∀ (l : List α) (ys : List β), (∀ x ∈ l, ∀ y, f x = some y → Q y → g x = some y) → l.mapM f = some ys → (∀ y ∈ ys, Q y) → l.mapM g = some ys
 | [], ys, _, h, _ => by simpa using h
 | x :: l, ys, hfg, h, hq => by
   rw [List.mapM_cons] at h ⊢
   simp only [Option.bind_eq_bind, Option.bind_eq_some_iff, Option.pure_def, Option.some.injEq] at h ⊢
   obtain ⟨y, hy, zs, hz, rfl⟩ := h
   exact ⟨y, hfg x (by simp) y hy (hq y (by simp)), zs, mapM_move l zs (fun a ha => hfg a (by simp [ha])) hz (fun a ha => hq a (by simp [ha])), rfl⟩

theorem mapM_get {α β : Type} {f : α → Option β} : ∀ (l : List α) (ys : List β), l.mapM f = some ys → ys.length = l.length ∧ ∀ (i : Nat) (x : α), l[i]? = some x → ∃ y, ys[i]? = some y ∧ f x = some y
 | [], ys, h => by
   simp at h; subst h; simp
 | x :: l, ys, h => by
   rw [List.mapM_cons] at h
   simp only [Option.bind_eq_bind, Option.bind_eq_some_iff, Option.pure_def, Option.some.injEq] at h
   obtain ⟨y, hy, zs, hz, rfl⟩ := h
   obtain ⟨h1, h2⟩ := mapM_get l zs hz
   refine ⟨by simp [h1], fun i a ha => ?_⟩
   cases i with
   | zero => simp at ha; subst ha; exact ⟨y, by simp, hy⟩
   | succ i => simpa using h2 i a (by simpa using ha)

/-- Types of numbers, truths, structs and slices of such. -/
def goodT (P : Program) : Nat → TypeId → Bool
 | 0, _ => false
 | d + 1, t => match P.underlying t with
   | some .bool => true
   | some (.int _) => true
   | some (.struct fs) => fs.toList.all fun f => goodT P d f.type
   | some (.slice e) => decide (0 < P.cellsOf e) && goodT P d e
   | _ => false

theorem cell_move {W W' : World} (hh : ∀ b, b < W.heap.size → W'.heap[b]? = W.heap[b]?) {a : Addr} {v : Value} (h : W.cell? a = some v) : W'.cell? a = some v := by
 unfold World.cell? at h ⊢
 split at h
 ·rename_i c e fz hb
  rw [hh _ (Array.getElem?_eq_some_iff.1 hb).1, hb]
  exact h
 ·cases h

theorem cells_move {W W' : World} (hh : ∀ b, b < W.heap.size → W'.heap[b]? = W.heap[b]?) {base : Nat} {a : Addr} {n : Nat} {vs : List Value} (h : W.cells? base a n = some vs) : W'.cells? base a n = some vs := by
 unfold World.cells? at h ⊢
 split at h
 ·rename_i hb
  rw [if_pos hb]
  exact mapM_move (Q := fun _ => True) _ _ (fun i _ y hy _ => cell_move hh hy) h (fun _ _ => trivial)
 ·cases h

theorem trod_move {H : Type} {enc : TypeId × Value → H} {P : Program} {W W' : World} {held : Bool} (hh : ∀ b, b < W.heap.size → W'.heap[b]? = W.heap[b]?) {sp : Nat → Bool} :
  ∀ (d fuel : Nat) (t : TypeId) (cs : List Value) (x : DataW H × List MemPlace), goodT P d t = true → DataW.trod enc P W 0 (fun _ => true) held fuel t cs = some x → (∀ p ∈ x.2, sp p.block = true) →
    DataW.trod enc P W' 0 sp held fuel t cs = some x := by
 intro d
 induction d with
 | zero => intro fuel t cs x hg; cases hg
 | succ d ih =>
   intro fuel t cs x hg h hs
   cases fuel with
   | zero => cases h
   | succ fuel =>
     unfold goodT at hg
     unfold DataW.trod at h ⊢
     cases hu : P.underlying t with
     | none => rw [hu] at hg; cases hg
     | some td =>
       rw [hu] at hg h
       cases td <;> simp only at hg <;> try (exact absurd hg Bool.false_ne_true)
       case bool =>
        split at h <;> simp_all
       case int k =>
        split at h <;> simp_all
       case struct fs =>
        split at h <;> try (simp_all; done)
        case _ fs' heq =>
         simp only [Option.some.injEq, TypeDesc.struct.injEq] at heq
         subst heq
         split at h
         case isTrue hl =>
          rw [if_pos hl]
          rw [Option.map_eq_some_iff] at h ⊢
          obtain ⟨ys, hy, rfl⟩ := h
          refine ⟨ys, ?_, rfl⟩
          refine mapM_move (Q := fun y => ∀ p ∈ y.2, sp p.block = true) _ _ (fun f hf y hy hq => ?_) hy (fun y hy p hp => hs p (List.mem_flatMap.2 ⟨y, hy, hp⟩))
          exact ih fuel f.type _ y (List.all_eq_true.1 hg f hf) hy hq
         case isFalse hl => cases h
       case slice e =>
        simp only [Bool.and_eq_true, decide_eq_true_eq] at hg
        obtain ⟨hpos, hg⟩ := hg
        split at h <;> try (simp_all; done)
        case _ e' a len cap heq =>
         simp only [Option.some.injEq, TypeDesc.slice.injEq] at heq
         subst heq
         have hel : ∀ i y, (W.cells? 0 (a.add (i * P.cellsOf e)) (P.cellsOf e)).bind (DataW.trod enc P W 0 (fun _ => true) held fuel e) = some y → (∀ p ∈ y.2, sp p.block = true) →
           (W'.cells? 0 (a.add (i * P.cellsOf e)) (P.cellsOf e)).bind (DataW.trod enc P W' 0 sp held fuel e) = some y := by
          intro i y hy hq
          rw [Option.bind_eq_some_iff] at hy ⊢
          obtain ⟨c, h1, h2⟩ := hy
          exact ⟨c, cells_move hh h1, ih fuel e c y hg h2 hq⟩
         simp only at h ⊢
         split at h
         case isFalse hl => cases h
         case isTrue hl =>
          rw [if_pos hl]
          rw [Option.bind_eq_some_iff] at h ⊢
          obtain ⟨es, he, h⟩ := h
          rw [if_pos trivial, Option.map_eq_some_iff] at h
          obtain ⟨rs, hr, rfl⟩ := h
          have hs2 : ∀ y ∈ es ++ rs, ∀ p ∈ y.2, sp p.block = true := fun y hy p hp => hs p (List.mem_append.2 (.inr (List.mem_flatMap.2 ⟨y, hy, hp⟩)))
          refine ⟨es, mapM_move (Q := fun y => ∀ p ∈ y.2, sp p.block = true) _ _ (fun i _ y hy hq => hel i y hy hq) he (fun y hy => hs2 y (by simp [hy])), ?_⟩
          rw [Option.map_eq_some_iff]
          refine ⟨rs, ?_, rfl⟩
          have hrl := (mapM_get _ _ hr).1
          by_cases hz : es.length + rs.length = 0
          ·have : rs = [] := List.eq_nil_of_length_eq_zero (by omega)
           subst this
           have hc : cap - len = 0 := by simpa using hrl.symm
           split
           ·rw [hc]; rfl
           ·rfl
          ·have hsp : sp a.block = true := by
            refine hs (.cell a.block (a.off + 0)) (List.mem_append.2 (.inl ?_))
            unfold MemPlace.row
            refine List.mem_map.2 ⟨0, List.mem_range.2 ?_, rfl⟩
            exact Nat.mul_pos (by omega) hpos
           rw [if_pos hsp]
           exact mapM_move (Q := fun y => ∀ p ∈ y.2, sp p.block = true) _ _ (fun j _ y hy hq => hel _ y hy hq) hr (fun y hy => hs2 y (by simp [hy]))

theorem trodAll_move {H : Type} {enc : TypeId × Value → H} {P : Program} {W W' : World} {held : Bool} (hh : ∀ b, b < W.heap.size → W'.heap[b]? = W.heap[b]?) {sp : Nat → Bool} (d : Nat) :
  ∀ (ts : List TypeId) (vs : List Value) (ds : List (DataW H)) (ps : List MemPlace), (∀ t ∈ ts, goodT P d t = true) → DataW.TrodAll enc P W 0 (fun _ => true) held ts vs ds ps → (∀ p ∈ ps, sp p.block = true) →
    DataW.TrodAll enc P W' 0 sp held ts vs ds ps
 | [], [], [], ps, _, h, _ => h
 | t :: ts, v :: vs, x :: ds, ps, hg, h, hs => by
   obtain ⟨p, q, ⟨fuel, h1⟩, h2, rfl⟩ := h
   exact ⟨p, q, ⟨fuel, trod_move hh d fuel t _ (x, p) (hg t (by simp)) h1 (fun z hz => hs z (by simp [hz]))⟩, trodAll_move hh d ts vs ds q (fun u hu => hg u (by simp [hu])) h2 (fun z hz => hs z (by simp [hz])), rfl⟩
 | [], _ :: _, _, _, _, h, _ => h.elim
 | [], [], _ :: _, _, _, h, _ => h.elim
 | _ :: _, [], _, _, _, h, _ => h.elim
 | _ :: _, _ :: _, [], _, _, h, _ => h.elim

/-- The state in which a call begins: all memory that is there is never written. -/
def st0 (W : World) : St := { w := W, imm := fun b => b < W.heap.size, loc := fun _ _ => .unk, next := 0 }
def H0 : Hp := fun _ => none
theorem st0_rel (W : World) (hg : ∀ p ∈ (default : GivT).l, VRel (st0 W) p.1 p.2) : HRel (st0 W) H0 := ⟨fun i _ => ⟨rfl, fun _ => rfl⟩, fun b h => h, fun i o h => (by cases h), fun i j o o' b h => (by cases h), hg⟩

inductive LitK where
 | int (k : IntKind)
 | bool
 deriving DecidableEq

def LitK.ok : LitK → Value → Prop
 | .int k, v => ∃ n, v = .int k n ∧ (Lit.int k n).wf = true
 | .bool, v => ∃ b, v = .bool b

/-- A type whose values are so many numbers and truths. -/
def litsT (P : Program) : Nat → TypeId → Option (List LitK)
 | 0, _ => none
 | d + 1, t => match P.underlying t with
   | some .bool => some [.bool]
   | some (.int k) => some [.int k]
   | some (.struct fs) => match fs.toList.foldl (fun acc f => match acc with
     | some ks => match litsT P d f.type with
       | some l => if f.offset = ks.length ∧ P.cellsOf f.type = l.length then some (ks ++ l) else none
       | none => none
     | none => none) (some []) with
     | some ks => if P.cellsOf t = ks.length then some ks else none
     | none => none
   | _ => none

def LitsOk (ks : List LitK) (cs : List Value) : Prop := cs.length = ks.length ∧ ∀ (i : Nat) (k : LitK) (v : Value), ks[i]? = some k → cs[i]? = some v → k.ok v

theorem LitsOk.append {ks ls : List LitK} {cs ds : List Value} (h : LitsOk ks cs) (h' : LitsOk ls ds) : LitsOk (ks ++ ls) (cs ++ ds) := by
 refine ⟨by simp [h.1, h'.1], fun i k v hk hv => ?_⟩
 by_cases hi : i < ks.length
 ·rw [List.getElem?_append_left hi] at hk
  rw [List.getElem?_append_left (by rw [h.1]; exact hi)] at hv
  exact h.2 i k v hk hv
 ·rw [List.getElem?_append_right (by omega)] at hk
  rw [List.getElem?_append_right (by rw [h.1]; omega), h.1] at hv
  exact h'.2 _ k v hk hv

theorem trod_lits {H : Type} {enc : TypeId × Value → H} {P : Program} {W : World} {held : Bool} {sp : Nat → Bool} :
  ∀ (d fuel : Nat) (t : TypeId) (cs : List Value) (x : DataW H × List MemPlace) (ks : List LitK), litsT P d t = some ks → DataW.trod enc P W 0 sp held fuel t cs = some x → LitsOk ks cs := by
 intro d
 induction d with
 | zero => intro fuel t cs x ks hg; cases hg
 | succ d ih =>
   intro fuel t cs x ks hg h
   cases fuel with
   | zero => cases h
   | succ fuel =>
     unfold litsT at hg
     unfold DataW.trod at h
     cases hu : P.underlying t with
     | none => rw [hu] at hg; cases hg
     | some td =>
       rw [hu] at hg h
       cases td <;> simp only at hg <;> try (cases hg; done)
       case bool =>
        cases hg
        split at h <;> simp_all
        rename_i b
        exact ⟨rfl, fun i k v hk hv => by cases i <;> simp at hk hv; subst hk hv; exact ⟨_, rfl⟩⟩
       case int k =>
        cases hg
        split at h <;> simp_all
        rename_i n hh
        exact ⟨rfl, fun i k v hk hv => by cases i <;> simp at hk hv; subst hk hv; exact ⟨_, rfl, h.1.2⟩⟩
       case struct fs =>
        split at h <;> try (simp_all; done)
        case _ fs' heq =>
         simp only [Option.some.injEq, TypeDesc.struct.injEq] at heq
         subst heq
         split at h
         case isFalse hl => cases h
         case isTrue hl =>
          rw [Option.map_eq_some_iff] at h
          obtain ⟨ys, hy, rfl⟩ := h
          have key : ∀ (c : List Value) (l : List Field) (acc ks : List LitK), (∀ f ∈ l, ∃ y, DataW.trod enc P W 0 sp held fuel f.type ((c.drop f.offset).take (P.cellsOf f.type)) = some y) → LitsOk acc (c.take acc.length) →
            l.foldl (fun acc f => match acc with
             | some ks => match litsT P d f.type with
               | some l => if f.offset = ks.length ∧ P.cellsOf f.type = l.length then some (ks ++ l) else none
               | none => none
             | none => none) (some acc) = some ks → LitsOk ks (c.take ks.length) := by
           intro c l
           induction l with
           | nil => intro acc ks _ ha he; simp at he; subst he; exact ha
           | cons f l ih2 =>
             intro acc ks hf ha he
             simp only [List.foldl_cons] at he
             have hnone : ∀ l : List Field, l.foldl (fun acc f => match acc with
              | some ks => match litsT P d f.type with
                | some l => if f.offset = ks.length ∧ P.cellsOf f.type = l.length then some (ks ++ l) else none
                | none => none
              | none => none) none = (none : Option (List LitK)) := by
              intro l; induction l with
              | nil => rfl
              | cons a l ih => simpa using ih
             cases hl2 : litsT P d f.type with
             | none => rw [hl2] at he; simp only at he; rw [hnone] at he; cases he
             | some lk =>
               rw [hl2] at he
               simp only at he
               by_cases hc : f.offset = acc.length ∧ P.cellsOf f.type = lk.length
               ·rw [if_pos hc] at he
                obtain ⟨y, hy⟩ := hf f (by simp)
                have := ih fuel f.type _ y lk hl2 hy
                rw [hc.1, hc.2] at this
                have hap := ha.append this
                refine ih2 (acc ++ lk) ks (fun g hg => hf g (by simp [hg])) ?_ he
                rw [List.length_append, List.take_add]
                exact hap
               ·rw [if_neg hc, hnone] at he; cases he
          split at hg
          case h_2 => cases hg
          case h_1 ks' he =>
           split at hg
           case isFalse => cases hg
           case isTrue hc =>
            cases hg
            have := key _ fs.toList [] ks (fun f hf => by
             obtain ⟨i, hi⟩ := List.getElem?_of_mem hf
             obtain ⟨y, _, h2⟩ := (mapM_get _ _ hy).2 i f hi
             exact ⟨y, h2⟩) ⟨by simp, fun i k v hk => by simp at hk⟩ he
            rw [List.take_of_length_le (by rw [hl, hc]; exact Nat.le_refl _)] at this
            exact this

end Go.V
end
section
set_option linter.unusedVariables false
set_option linter.unusedSimpArgs false
namespace Go.V
set_option linter.unusedSectionVars false
variable [Inhabited GivT]
theorem trod_slice_rel {H : Type} {enc : TypeId × Value → H} {P : Program} {W : World} {held : Bool} {sp : Nat → Bool} {d fuel : Nat} {t e : TypeId} {v : Value} {x : DataW H × List MemPlace} {ks : List LitK}
  (ht : P.underlying t = some (.slice e)) (hk : litsT P d e = some ks) (hsz : P.cellsOf e = ks.length) (hpos : 0 < ks.length) (h : DataW.trod enc P W 0 sp held fuel t [v] = some x) :
  ∃ (n : Nat) (g : Nat → List Value), n ≤ maxLen ∧ (∀ i, i < n → LitsOk ks (g i)) ∧ VRel (st0 W) (.rsl n ks.length (fun i => (g i).map AV.lit)) v := by
 cases fuel with
 | zero => cases h
 | succ fuel =>
   unfold DataW.trod at h
   rw [ht] at h
   split at h <;> try (simp_all; done)
   ·rename_i heq heq2
    simp only [List.cons.injEq, and_true] at heq2
    subst heq2
    exact ⟨0, fun _ => [], Nat.zero_le _, fun i hi => by omega, .rsl0⟩
   ·rename_i e' a len cap heq heq2
    simp only [Option.some.injEq, TypeDesc.slice.injEq] at heq
    simp only [List.cons.injEq, and_true] at heq2
    subst heq heq2
    simp only at h
    split at h
    case isFalse hl => cases h
    case isTrue hl =>
     rw [Option.bind_eq_some_iff] at h
     obtain ⟨es, he, -⟩ := h
     let g : Nat → List Value := fun i => match W.cells? 0 (a.add (i * P.cellsOf e)) (P.cellsOf e) with
      | some c => c
      | none => []
     have hel : ∀ i, i < len → W.cells? 0 (a.add (i * P.cellsOf e)) (P.cellsOf e) = some (g i) ∧ LitsOk ks (g i) := by
      intro i hi
      obtain ⟨y, _, hy⟩ := (mapM_get _ _ he).2 i i (by simp [hi])
      rw [Option.bind_eq_some_iff] at hy
      obtain ⟨c, h1, h2⟩ := hy
      have : g i = c := by simp only [g, h1]
      rw [this]
      exact ⟨h1, trod_lits d fuel _ c y ks hk h2⟩
     refine ⟨len, g, Nat.le_trans hl.2.1 hl.2.2, fun i hi => (hel i hi).2, ?_⟩
     by_cases h0 : len = 0
     ·subst h0; exact .rsl0
     have hcell : ∀ i j, i < len → j < ks.length → ∃ u, (g i)[j]? = some u ∧ W.cell? ((a.add (i * P.cellsOf e)).add j) = some u := by
      intro i j hi hj
      have h1 := (hel i hi).1
      unfold World.cells? at h1
      rw [if_pos (Nat.zero_le _)] at h1
      exact (mapM_get _ _ h1).2 j j (by simp [hsz, hj])
     obtain ⟨b, off, spot⟩ := a
     obtain ⟨u0, _, hc0⟩ := hcell 0 0 (by omega) hpos
     rw [show ((⟨b, off, spot⟩ : Addr).add (0 * P.cellsOf e)).add 0 = ⟨b, off, spot⟩ from by simp [Addr.add]] at hc0
     unfold World.cell? at hc0
     split at hc0
     case h_2 => cases hc0
     case h_1 c ct fz hb =>
      have hspot : spot = none := by
       cases spot with
       | none => rfl
       | some s => simp at hc0
      subst hspot
      have hadd : ∀ i j, (((⟨b, off, none⟩ : Addr).add (i * P.cellsOf e)).add j) = ⟨b, off + i * P.cellsOf e + j, none⟩ := fun i j => by rw [addr_add, addr_add]
      have hall : ∀ i j, i < len → j < ks.length → ∃ u, (g i)[j]? = some u ∧ c[off + i * ks.length + j]? = some u := by
       intro i j hi hj
       obtain ⟨u, h1, h2⟩ := hcell i j hi hj
       rw [hadd] at h2
       unfold World.cell? at h2
       simp only at hb
       rw [show W.heap[(⟨b, off + i * P.cellsOf e + j, none⟩ : Addr).block]? = some (.cells c ct fz) from hb] at h2
       simp only [Option.isSome_none, Bool.false_eq_true, if_false, hsz] at h2
       exact ⟨u, h1, h2⟩
      refine .rsl (c := c) (e := ct) (fz := fz) ?_ hb ?_ (fun i hi => by simpa using (hel i hi).2.1) (fun i j hi hj => ?_) hl.2.1
      ·exact (Array.getElem?_eq_some_iff.1 hb).1
      ·obtain ⟨u, _, h2⟩ := hall (len - 1) (ks.length - 1) (by omega) (by omega)
       have := (Array.getElem?_eq_some_iff.1 h2).1
       have e1 : len * ks.length = (len - 1) * ks.length + ks.length := by
        obtain ⟨q, rfl⟩ : ∃ q, len = q + 1 := ⟨len - 1, by omega⟩
        rw [Nat.add_sub_cancel, Nat.succ_mul]
       omega
      ·obtain ⟨u, h1, h2⟩ := hall i j hi hj
       rw [List.getD_eq_getElem?_getD, List.getElem?_map, h1, Array.getD_eq_getD_getElem?, h2]
       exact .lit _

end Go.V
end
section
set_option linter.unusedVariables false
set_option linter.unusedSimpArgs false
namespace Go.V
set_option linter.unusedSectionVars false
variable [Inhabited GivT]
open Go.ChangeShapes Go.WideShapes
theorem law_post {H : Type} {enc : TypeId × Value → H} {P : Program} {f : Func} {s : ChangeSpec} {apart fresh handsOn again : Bool} {W W' : World} {args : Array Value} {ds gs : List (DataW H)} {before : List MemPlace} {tb : TypeId} {d : Nat}
  (hv0 : s.vars = []) (hrt : f.resultTypes = #[tb]) (hb : P.underlying tb = some .bool) (hgood : ∀ t ∈ f.params.toList, goodT P d t = true)
  (hW : DataW.Whole enc P f.params.toList s.vars apart W args.toList ds gs before)
  (hfn : s.fn H (ds ++ gs) = { results := [.lit (.bool true)], args := ds })
  (hh : ∀ b, b < W.heap.size → W'.heap[b]? = W.heap[b]?) (hos : W'.os = W.os) (hout : W'.output = W.output) : s.post enc P f apart fresh handsOn again W args (.bool true) W' := by
 have hW' := hW
 obtain ⟨p, q, hA, hV, rfl, hz, hn⟩ := hW
 rw [hv0] at hV
 have hgq : gs = [] ∧ q = [] := by
  cases gs with
  | nil => exact ⟨rfl, hV⟩
  | cons _ _ => exact hV.elim
 obtain ⟨rfl, rfl⟩ := hgq
 have hlt : ∀ z ∈ p ++ [], z.block < W.heap.size := fun z hz => hW'.lt z hz
 have hold : ∀ z ∈ p, (fun b => decide (b < W.heap.size)) z.block = true := fun z hz => by simpa using hlt z (by simpa using hz)
 have hres : ∀ (b : Nat) (sp : Nat → Bool) (hd : Bool), DataW.TrodAll enc P W' b sp hd f.resultTypes.toList ((Value.bool true).resultList f.resultTypes.size) (s.fn H (ds ++ [])).results [] := by
  intro b sp hd
  rw [hfn, hrt]
  exact ⟨[], [], ⟨1, by simp [DataW.trod, hb, Value.cells]⟩, rfl, rfl⟩
 have hargs : ∀ sp : Nat → Bool, (∀ z ∈ p, sp z.block = true) → DataW.TrodAll enc P W' 0 sp true f.params.toList args.toList (s.fn H (ds ++ [])).args p := by
  intro sp hs
  rw [hfn]
  exact trodAll_move hh d _ _ _ _ hgood hA hs
 refine ⟨ds, [], p ++ [], [], p, [], hW', hres _ _ _, hargs _ hold, ?_, ⟨hos, hout, fun i hi => ?_⟩, fun _ => ?_⟩
 ·rw [hv0, hfn]; exact rfl
 ·rw [hh i hi]
  cases W.heap[i]? with
  | none => rfl
  | some o => cases o <;> first | exact ⟨rfl, rfl, rfl, fun _ _ => rfl⟩ | exact .inr ⟨rfl, rfl⟩ | rfl
 ·refine ⟨fun j t r h1 h2 => ?_, _, [], ([] ++ p) ++ [], ⟨[] ++ p, [], trodAll_append (hargs _ (fun _ _ => rfl)) (hres _ _ _), ?_, rfl, ?_, ?_⟩, ?_⟩
  ·rw [hrt] at h1 h2
   have hj : j = 0 := by
    have := (Array.getElem?_eq_some_iff.1 h1).1
    simp at this; omega
   subst hj
   simp [Value.resultList] at h1 h2
   subst h1 h2
   simp [Value.okWide, hb, Cell.okWide, Cell.ok]
  ·rw [hv0]; exact rfl
  ·intro b off hm
   have hm' : MemPlace.cell b off ∈ p ++ [] := by simpa using hm
   have := hz b off hm'
   have hb' : b < W.heap.size := hlt _ hm'
   unfold World.frozen? at this ⊢
   simp only [hh b hb']
   exact this
  ·intro ha
   have := hn ha
   simpa using this
  ·intro z hz _
   simpa using hz

end Go.V
end
section
set_option linter.unusedVariables false
set_option linter.unusedSimpArgs false
namespace Go.V
set_option linter.unusedSectionVars false
variable [Inhabited GivT]
theorem law_calls {P : Program} {f : FuncId} {fn : Func} {c : Code} {W : World} {args : Array Value} {avs : List AV} (hf : P.funcs[f]? = some fn) (hname : (fn.name == "runtime.NumGoroutine") = false) (hb : fn.body = some c)
  (hT : Tri P (.func (.func f) [] []) avs H0 fun r _ => r = .ret (.lit (.bool true))) (hg : ∀ p ∈ (default : GivT).l, VRel (st0 W) p.1 p.2) (ha : VRels (st0 W) avs args.toList) :
  Calls P f args W fun e W' => e = .returned (.bool true) ∧ (∀ b, b < W.heap.size → W'.heap[b]? = W.heap[b]?) ∧ W'.os = W.os ∧ W'.output = W.output := by
 obtain ⟨nx, h1, h2⟩ := hT (st0 W) (.func (.func f) #[] #[]) args.toList (st0_rel W hg) (.func rfl rfl (fun k hk => absurd hk (by simp)) (fun k hk => absurd hk (by simp))) ha
 have hcf : (callFunc f args).run P W = .ok (.enter f args) W := by
  simp only [callFunc, Sem.run_bind, run_program, Result.andThen_ok, hf, hname, hb]
  simp
 simp only [Deferred.ofValue, Sem.run_bind, Sem.run_pure, Result.andThen_ok, invoke] at h1
 have e : (#[] : Array Value) ++ args.toList.toArray ++ #[] = args := by simp
 rw [e] at h1
 have h1' : (callFunc f args).run P W = .ok nx W := h1
 rw [hcf] at h1'
 injection h1' with h1' _
 subst h1'
 refine Calls.mono h2 ?_
 rintro e w ⟨S', r, H', rfl, hle, hH', hrr, hr⟩
 subst hr
 refine ⟨?_, fun b hb => hle.keep b hb, hle.os, hle.output⟩
 cases e with
 | returned v => rw [VRel.lit_inv hrr]
 | panicked ch => exact hrr.elim
 | outgrown => exact hrr.elim

end Go.V
end
section
set_option linter.unusedVariables false
set_option linter.unusedSimpArgs false
namespace Go.V
set_option linter.unusedSectionVars false
variable [Inhabited GivT]
open Go.ChangeShapes
def st2 (P : Program) (t a oa b ob : Nat) : Bool := match P.underlying t with
 | some (.struct fs) => (match fs.toList with
   | [f0, f1] => f0.type == a && f0.offset == oa && f1.type == b && f1.offset == ob
   | _ => false)
 | _ => false
end Go.V
end
section
set_option linter.unusedVariables false
namespace Go.V
set_option linter.unusedSectionVars false
variable [Inhabited GivT]
theorem frz_step {S : St} {H : Hp} {id st n : Nat} {f : Nat → List AV} (hH : HRel S H) (ho : H id = some (.row st n f)) :
  ∃ S2, S2.w = S.w ∧ Le S S2 ∧ HRel S2 (H.del id) ∧ ∀ v, VRel S (.sl id st n) v → VRel S2 (.rsl n st f) v := by
 obtain ⟨hg, hcase⟩ := hH.obj id _ ho
 rcases hcase with ⟨rfl, hnil⟩ | ⟨b, c, e, hl, hb, hni, hc⟩
 ·refine ⟨S, rfl, Le.refl S, hH.sub ?_, ?_⟩
  ·intro j o' hj
   by_cases ej : j = id
   ·simp [Hp.del, ej] at hj
   ·exact ⟨o', by rw [Hp.del_ne _ ej] at hj; exact hj, .refl _⟩
  ·intro v this
   cases this with
   | sl hl => rw [hnil] at hl; cases hl
   | slnil _ => exact .rsl0
 ·have hle := S.frz_le b
  refine ⟨S.frz b, rfl, hle, ?_, ?_⟩
  ·refine ⟨fun i hi => ⟨?_, (hH.fresh i hi).2⟩, ?_, ?_, ?_, fun p hp => (hH.giv p hp).mono hle⟩
   ·simp only [Hp.del]; split
    ·rfl
    ·exact (hH.fresh i hi).1
   ·rintro x (hx | rfl)
    ·exact hH.immlt x hx
    ·exact (Array.getElem?_eq_some_iff.1 hb).1
   ·intro i o hi
    have ne : i ≠ id := by intro e; simp [Hp.del, e] at hi
    rw [Hp.del_ne _ ne] at hi
    have old := hH.obj i o hi
    have hne : ∀ x, S.loc i o.gen = .blk x → x ≠ b := fun x hx e => ne (hH.inj i id o _ x hi ho hx (by subst e; exact hl))
    cases o with
    | box st' n' f' =>
      obtain ⟨b', c', e', h1, h2, h3, h4⟩ := old
      exact ⟨b', c', e', h1, h2, fun hx => hx.elim h3 (hne b' h1), h4.1, h4.2.1, fun i j hi hj => (h4.2.2 i j hi hj).mono hle⟩
    | row st' n' f' =>
      obtain ⟨g1, old⟩ := old
      refine ⟨g1, old.imp (fun x => x) ?_⟩
      rintro ⟨b', c', e', h1, h2, h3, h4⟩
      exact ⟨b', c', e', h1, h2, fun hx => hx.elim h3 (hne b' h1), h4.1, h4.2.1, fun i j hi hj => (h4.2.2 i j hi hj).mono hle⟩
    | memo F =>
      obtain ⟨b', es, k, h1, h2, h3, h4⟩ := old
      exact ⟨b', es, k, h1, h2, fun hx => hx.elim h3 (hne b' h1), h4⟩
    | raw o =>
      obtain ⟨b', h1, h2, h3, h4⟩ := old
      exact ⟨b', h1, h2, h3, fun hx => hx.elim h4 (hne b' h1)⟩
    | iter mid since seen c0 =>
      obtain ⟨r', b', h1, h2, h3, h4⟩ := old
      exact ⟨r', b', h1, h2, h3, fun hx => hx.elim h4 (hne r' h1)⟩
    | loop l n s ps assign body st pend did =>
      obtain ⟨h1, h2, fn, tmps, D, h3, h4, h5, h6⟩ := old
      exact ⟨h1, fun hx => hx.elim h2 (hne l h1), fn, tmps, D, h3, h4, h5.mono hle, h6⟩
   ·intro i j o o' x hi hj
    have ne : i ≠ id := by intro e; simp [Hp.del, e] at hi
    have ne' : j ≠ id := by intro e; simp [Hp.del, e] at hj
    rw [Hp.del_ne _ ne] at hi
    rw [Hp.del_ne _ ne'] at hj
    exact hH.inj i j o o' x hi hj
  ·intro v this
   cases this with
   | sl hl' hb' _ hlen' =>
     rw [hl] at hl'; cases hl'
     exact .rsl (off := 0) (.inr rfl) hb (by rw [Nat.zero_add]; exact hc.1) hc.2.1 (fun i j hi hj => by rw [Nat.zero_add]; exact (hc.2.2 i j hi hj).mono hle) hlen'
   | slnil hl' => rw [hl] at hl'; cases hl'

/-- What is frozen: the row's slices become its data. -/
def Frz (id st n : Nat) (f : Nat → List AV) (x y : AV) : Prop := y = x ∨ (x = .sl id st n ∧ y = .rsl n st f)
theorem Frz.rfl {id st n : Nat} {f : Nat → List AV} {x : AV} : Frz id st n f x x := .inl (Eq.refl x)
theorem Frz.hit {id st n : Nat} {f : Nat → List AV} : Frz id st n f (.sl id st n) (.rsl n st f) := .inr ⟨Eq.refl _, Eq.refl _⟩

/-- A row that is written no more, of which a box tells. -/
theorem Ent.freezeBox {s s' : Fr} {ds : List AD} {H : Hp} {K : Fr → List AD → Hp → Prop} {id st n j st' n' : Nat} {f g g' : Nat → List AV} (ho : H id = some (.row st n f)) (hj : H j = some (.box st' n' g))
  (hs : ∀ t, Frz id st n f (s t) (s' t)) (hl : ∀ k, k < n' → (g' k).length = st') (hg : ∀ k c, k < n' → c < st' → Frz id st n f ((g k).getD c .any) ((g' k).getD c .any))
  (h : K s' ds ((H.del id).set j (.box st' n' g'))) : Ent s ds H K := by
 intro S a hH hF hD
 obtain ⟨S2, hw, hle, h2, hc⟩ := frz_step hH ho
 have hne : j ≠ id := fun e => by rw [e, ho] at hj; cases hj
 have conv : ∀ x y v, Frz id st n f x y → VRel S x v → VRel S2 y v := fun x y v hxy hv => by
  rcases hxy with rfl | ⟨rfl, rfl⟩
  ·exact hv.mono hle
  ·exact hc v hv
 have hj2 : (H.del id) j = some (.box st' n' g) := by rw [Hp.del_ne _ hne]; exact hj
 refine ⟨S2, s', ds, _, hw, hle, ?_, fun t => conv _ _ _ (hs t) (hF t), hD.mono hle, h⟩
 obtain ⟨b, c, e, a1, a2, a3, a4⟩ := hH.obj j _ hj
 obtain ⟨b2, c2, e2, q1, q2, q3, q4⟩ := h2.obj j _ hj2
 have eb : b2 = b := by
  have := hle.locBlk a1
  rw [this] at q1
  cases q1; rfl
 subst eb
 rw [hw, a2] at q2
 cases q2
 refine ⟨fun i hi => ⟨?_, (h2.fresh i hi).2⟩, h2.immlt, ?_, ?_, h2.giv⟩
 ·have hi' := (h2.fresh i hi).1
  by_cases ei : i = j
  ·subst ei; rw [hj2] at hi'; cases hi'
  ·rw [Hp.set_ne _ _ ei]; exact hi'
 ·intro i o hi
  by_cases ei : i = j
  ·subst ei
   rw [Hp.set_same] at hi
   cases hi
   exact ⟨b2, c, e, q1, by rw [hw]; exact a2, q3, a4.1, hl, fun k d hk hd => conv _ _ _ (hg k d hk hd) (a4.2.2 k d hk hd)⟩
  ·rw [Hp.set_ne _ _ ei] at hi
   exact h2.obj i o hi
 ·intro i i' o o' x hi hi' hx hx'
  have back : ∀ k o, ((H.del id).set j (.box st' n' g')) k = some o → ∃ p, (H.del id) k = some p ∧ p.gen = o.gen := fun k o hk => by
   by_cases ek : k = j
   ·subst ek
    rw [Hp.set_same] at hk
    cases hk
    exact ⟨_, hj2, Eq.refl _⟩
   ·rw [Hp.set_ne _ _ ek] at hk
    exact ⟨o, hk, Eq.refl _⟩
  obtain ⟨p, p1, p2⟩ := back i o hi
  obtain ⟨p', p1', p2'⟩ := back i' o' hi'
  exact h2.inj i i' p p' x p1 p1' (by rw [p2]; exact hx) (by rw [p2']; exact hx')

end Go.V
end
section
set_option linter.unusedVariables false
namespace Go.V
set_option linter.unusedSectionVars false
variable [Inhabited GivT]
theorem HRel.boxUpd {S : St} {H : Hp} {j st n : Nat} {g g' : Nat → List AV} (hH : HRel S H) (hj : H j = some (.box st n g)) (hl : ∀ k, k < n → (g' k).length = st)
  (hg : ∀ k d v, k < n → d < st → VRel S ((g k).getD d .any) v → VRel S ((g' k).getD d .any) v) : HRel S (H.set j (.box st n g')) := by
 obtain ⟨b, c, e, q1, q2, q3, q4⟩ := hH.obj j _ hj
 refine ⟨fun i hi => ⟨?_, (hH.fresh i hi).2⟩, hH.immlt, ?_, ?_, hH.giv⟩
 ·have hi' := (hH.fresh i hi).1
  by_cases ei : i = j
  ·subst ei; rw [hj] at hi'; cases hi'
  ·rw [Hp.set_ne _ _ ei]; exact hi'
 ·intro i o hi
  by_cases ei : i = j
  ·subst ei
   rw [Hp.set_same] at hi
   cases hi
   exact ⟨b, c, e, q1, q2, q3, q4.1, hl, fun k d hk hd => hg k d _ hk hd (q4.2.2 k d hk hd)⟩
  ·rw [Hp.set_ne _ _ ei] at hi
   exact hH.obj i o hi
 ·intro i i' o o' x hi hi' hx hx'
  have back : ∀ k o, (H.set j (.box st n g')) k = some o → ∃ p, H k = some p ∧ p.gen = o.gen := fun k o hk => by
   by_cases ek : k = j
   ·subst ek
    rw [Hp.set_same] at hk
    cases hk
    exact ⟨_, hj, Eq.refl _⟩
   ·rw [Hp.set_ne _ _ ek] at hk
    exact ⟨o, hk, Eq.refl _⟩
  obtain ⟨p, p1, p2⟩ := back i o hi
  obtain ⟨p', p1', p2'⟩ := back i' o' hi'
  exact hH.inj i i' p p' x p1 p1' (by rw [p2]; exact hx) (by rw [p2']; exact hx')

/-- Nil becomes a row of none. -/
def Nld (id st : Nat) (x y : AV) : Prop := y = x ∨ (x = .lit (.slice none 0 0) ∧ y = .sl id st 0)
theorem Nld.rfl {id st : Nat} {x : AV} : Nld id st x x := .inl (Eq.refl x)
theorem Nld.hit {id st : Nat} : Nld id st (.lit (.slice none 0 0)) (.sl id st 0) := .inr ⟨Eq.refl _, Eq.refl _⟩

theorem Ent.nilBox {s : Fr} {ds : List AD} {H : Hp} {K : Fr → List AD → Hp → Prop} {j st' n' : Nat} {g : Nat → List AV} (st : Nat) (f : Nat → List AV) (g' : Nat → Nat → List AV) (hj : H j = some (.box st' n' g))
  (hl : ∀ id k, k < n' → (g' id k).length = st') (hg : ∀ id k c, k < n' → c < st' → Nld id st ((g k).getD c .any) ((g' id k).getD c .any))
  (h : ∀ id, H id = none → K s ds ((H.set id (.row st 0 f)).set j (.box st' n' (g' id)))) : Ent s ds H K := by
 intro S a hH hF hD
 have hnone := St.next_none hH
 have hle := S.layNil_le hH
 have hne : j ≠ S.next := fun e => by rw [← e, hj] at hnone; cases hnone
 have h2 := hH.layNil st f
 have hj2 : (H.set S.next (.row st 0 f)) j = some (.box st' n' g) := by rw [Hp.set_ne _ _ hne]; exact hj
 refine ⟨S.layNil, s, ds, _, rfl, hle, h2.boxUpd hj2 (hl S.next) (fun k d v hk hd hv => ?_), fun t => (hF t).mono hle, hD.mono hle, h S.next hnone⟩
 rcases hg S.next k d hk hd with e | ⟨e1, e2⟩
 ·rw [e]; exact hv
 ·rw [e2]
  rw [e1] at hv
  have := hv.lit_inv
  subst this
  exact .slnil (by simp [St.layNil])

end Go.V
end
section
set_option linter.unusedVariables false
namespace Go.V
set_option linter.unusedSectionVars false
variable [Inhabited GivT]
/-- A value in which a row is now data. -/
inductive FrzD (id st n : Nat) (f : Nat → List AV) : AV → AV → Prop
 | same (x : AV) : FrzD id st n f x x
 | hit {g : Nat → List AV} (h : ∀ i, i < n → f i = g i) : FrzD id st n f (.sl id st n) (.rsl n st g)
 | agg {cs cs' : List AV} (hl : cs'.length = cs.length) (h : ∀ k, k < cs.length → FrzD id st n f (cs.getD k .any) (cs'.getD k .any)) : FrzD id st n f (.agg cs) (.agg cs')
 | tuple {cs cs' : List AV} (hl : cs'.length = cs.length) (h : ∀ k, k < cs.length → FrzD id st n f (cs.getD k .any) (cs'.getD k .any)) : FrzD id st n f (.tuple cs) (.tuple cs')

theorem FrzD.conv {S S2 : St} {id st n : Nat} {f : Nat → List AV} (hle : Le S S2) (hc : ∀ v, VRel S (.sl id st n) v → VRel S2 (.rsl n st f) v) {x y : AV} (hxy : FrzD id st n f x y) : ∀ v, VRel S x v → VRel S2 y v := by
 induction hxy with
 | same x => intro v hv; exact hv.mono hle
 | hit h => intro v hv; exact AV.Le.rsl h _ _ (hc v hv)
 | agg hl h ih =>
   intro v hv
   cases hv with
   | agg hn hv => exact .agg (hn.trans hl.symm) fun k hk => ih k (by omega) _ (hv k (by omega))
 | tuple hl h ih =>
   intro v hv
   cases hv with
   | tuple hn hv => exact .tuple (hn.trans hl.symm) fun k hk => ih k (by omega) _ (hv k (by omega))

end Go.V
end
section
set_option linter.unusedVariables false
namespace Go.V
set_option linter.unusedSectionVars false
variable [Inhabited GivT]
section
variable {r : Option Nat} {P : Program} {m : Option Tmp → Bool} {n : Nat} {k : List It} {s : Fr} {ds : List AD} {H : Hp} {Q : Post}
theorem vs_entL {c : Code} (h : Ent s ds H fun s ds H => VS r P m n (.code (.loop c) :: k) s ds H Q) : VS r P m n (.code (.loop c) :: k) s ds H Q :=
 (wps_ent h : WPS r P n (.loop c) s ds H (TK r P m n k Q))
end
end Go.V
end
section
set_option linter.unusedVariables false
set_option linter.unusedSimpArgs false
namespace Go.V
set_option linter.unusedSectionVars false
variable [Inhabited GivT]
abbrev i64 (n : Int) : AV := .lit (.int .i64 n)
abbrev u64 (n : Int) : AV := .lit (.int .u64 n)
abbrev u8 (n : Int) : AV := .lit (.int .u8 n)
abbrev u16 (n : Int) : AV := .lit (.int .u16 n)
abbrev boo (b : Bool) : AV := .lit (.bool b)
abbrev bx (n : Int) : AV := .rptr 1 1 (fun _ => [i64 n]) 0 0

theorem getD_snoc {α : Type} (l : List α) (x d : α) (k : Nat) : (l ++ [x]).getD k d = if k = l.length then x else l.getD k d := by
 by_cases h : k = l.length
 ·subst h; simp
 ·rw [if_neg h]
  by_cases h2 : k < l.length
  ·rw [List.getD_eq_getElem?_getD, List.getD_eq_getElem?_getD, List.getElem?_append_left h2]
  ·rw [List.getD_eq_getElem?_getD, List.getD_eq_getElem?_getD, List.getElem?_eq_none (by simp; omega), List.getElem?_eq_none (by omega)]
theorem take_snoc {α : Type} (l : List α) (i : Nat) (d : α) (h : i < l.length) : l.take (i + 1) = l.take i ++ [l.getD i d] := by
 rw [List.take_add_one, List.getD_eq_getElem?_getD, List.getElem?_eq_getElem h]; rfl
theorem mem_getD {α : Type} (l : List α) (i : Nat) (d : α) (h : i < l.length) : l.getD i d ∈ l := by
 rw [List.getD_eq_getElem?_getD, List.getElem?_eq_getElem h]; exact List.getElem_mem h
theorem getD_mem {α : Type} {l : List α} {x : α} (d : α) (h : x ∈ l) : ∃ i, i < l.length ∧ l.getD i d = x := by
 obtain ⟨i, hi, e⟩ := List.getElem_of_mem h
 exact ⟨i, hi, by rw [List.getD_eq_getElem?_getD, List.getElem?_eq_getElem hi]; exact e⟩
/-- A list, each thing of which is so many cells. -/
def lF {α : Type} (en : α → List AV) (d : α) (l : List α) : Nat → List AV := fun i => en (l.getD i d)
theorem app_lF {α : Type} (en : α → List AV) (d : α) (l : List α) (x : α) (g : Nat → List AV) (hg : g 0 = en x) : appF l.length 1 (lF en d l) g = lF en d (l ++ [x]) := by
 funext k
 simp only [appF, lF, hg, getD_snoc]
 split <;> rfl
abbrev enI (z : Int) : List AV := [i64 z]
abbrev enN (z : Nat) : List AV := [i64 (z : Int)]
abbrev enU (z : Nat) : List AV := [u64 (z : Int)]
def intF (l : List Int) : Nat → List AV := fun i => [i64 (l.getD i 0)]
abbrev intsAV (l : List Int) : AV := .rsl l.length 1 (intF l)
theorem intF_at (l : List Int) (i : Nat) : intF l i = [i64 (l.getD i 0)] := rfl
theorem app_ints (l : List Int) (w : Int) (g : Nat → List AV) (hg : g 0 = [i64 w]) : appF l.length 1 (intF l) g = intF (l ++ [w]) := app_lF enI 0 l w g hg
def llF (l : List (List Int)) : Nat → List AV := fun i => [intsAV (l.getD i [])]
abbrev llAV (l : List (List Int)) : AV := .rsl l.length 1 (llF l)
theorem bit_eq (S i : Nat) : decide ((((S : Int) / 2 ^ i).toNat &&& Int.toNat 1 : Nat) = (1 : Int)) = S.testBit i := by
 have e : ((S : Int) / 2 ^ i).toNat = S / 2 ^ i := by
  have : (S : Int) / 2 ^ i = ((S / 2 ^ i : Nat) : Int) := by simp
  rw [this]; rfl
 rw [e, Nat.testBit_eq_decide_div_mod_eq]
 show decide (((S / 2 ^ i &&& 1 : Nat) : Int) = 1) = _
 rw [Nat.and_one_is_mod]
 congr 1
 apply propext
 omega
/-- How many bits there are. -/
def popN : Nat → Nat → Nat
 | 0, _ => 0
 | f + 1, s => s % 2 + popN f (s / 2)
def pop (s : Nat) : Nat := popN 64 s
end Go.V
end
section
set_option linter.unusedVariables false
namespace Go.V
set_option linter.unusedSectionVars false
variable [Inhabited GivT]
theorem AV.Le.nil (st : Nat) (f : Nat → List AV) : AV.Le (.lit (.slice none 0 0)) (.rsl 0 st f) := by
 intro S v hv
 have := hv.lit_inv
 subst this
 exact .rsl0
end Go.V
end
section
set_option linter.unusedVariables false
set_option linter.unusedSimpArgs false
namespace Go.V
set_option linter.unusedSectionVars false
variable [Inhabited GivT]
theorem tri_inv {P : Program} {T : TypeId} {nm : String} {f : FuncId} {recv : AV} {args : List AV} {H : Hp} {R : Res → Hp → Prop} (hm : methT P T nm f) (h : Tri P (fnA f) (recv :: args) H R) :
  Tri P (.func (.method nm) [] []) (.iface T recv :: args) H R := by
 intro S vf vs hH hvf ha
 cases hvf with
 | @func _ _ _ ws us hn hu h1 h2 =>
   have hws : ws = #[] := by simpa using hn
   subst hws
   have hus : us = #[] := by simpa using hu
   subst hus
   obtain ⟨hlen, hall⟩ := ha
   cases vs with
   | nil => simp at hlen
   | cons x vs =>
     have hx := hall 0 (by simp)
     simp only [List.getD_cons_zero] at hx
     cases hx with
     | @iface _ _ cv hcv =>
       obtain ⟨nx, e1, e2⟩ := h S (.func (.func f) #[] #[]) (cv :: vs) hH (.func rfl rfl (fun k hk => absurd hk (by simp)) (fun k hk => absurd hk (by simp)))
        ⟨by simpa using hlen, fun k hk => by
         cases k with
         | zero => exact hcv
         | succ k => simpa using hall (k+1) (by simpa using hk)⟩
       refine ⟨nx, ?_, e2⟩
       rw [← e1]
       simp only [Deferred.ofValue, Sem.run_bind, Sem.run_pure, Result.andThen_ok, invoke]
       have a1 : (#[] ++ (Value.iface T cv :: vs).toArray : Array Value)[0]? = some (.iface T cv) := by simp
       have a2 : (#[] ++ (Value.iface T cv :: vs).toArray : Array Value).extract 1 (#[] ++ (Value.iface T cv :: vs).toArray : Array Value).size = vs.toArray := by
        apply Array.toList_inj.1; simp
       simp only [a1, a2, hm cv vs.toArray S.w]
       congr 2
       simp
end Go.V
end
section
set_option linter.unusedVariables false
namespace Go.V
set_option linter.unusedSectionVars false
variable [Inhabited GivT]
theorem frz_stepB {S : St} {H : Hp} {id st n : Nat} {f : Nat → List AV} (hH : HRel S H) (ho : H id = some (.box st n f)) :
  ∃ S2, S2.w = S.w ∧ Le S S2 ∧ HRel S2 (H.del id) ∧ ∀ i j v, VRel S (.ref id 0 st i j) v → VRel S2 (.rptr n st f i j) v := by
 obtain ⟨b, c, e, hl, hb, hni, hc⟩ := hH.obj id _ ho
 have hle := S.frz_le b
 refine ⟨S.frz b, rfl, hle, ?_, ?_⟩
 ·refine ⟨fun i hi => ⟨?_, (hH.fresh i hi).2⟩, ?_, ?_, ?_, fun p hp => (hH.giv p hp).mono hle⟩
  ·simp only [Hp.del]; split
   ·rfl
   ·exact (hH.fresh i hi).1
  ·rintro x (hx | rfl)
   ·exact hH.immlt x hx
   ·exact (Array.getElem?_eq_some_iff.1 hb).1
  ·intro i o hi
   have ne : i ≠ id := by intro e; simp [Hp.del, e] at hi
   rw [Hp.del_ne _ ne] at hi
   have old := hH.obj i o hi
   have hne : ∀ x, S.loc i o.gen = .blk x → x ≠ b := fun x hx e => ne (hH.inj i id o _ x hi ho hx (by subst e; exact hl))
   cases o with
   | box st' n' f' =>
     obtain ⟨b', c', e', h1, h2, h3, h4⟩ := old
     exact ⟨b', c', e', h1, h2, fun hx => hx.elim h3 (hne b' h1), h4.1, h4.2.1, fun i j hi hj => (h4.2.2 i j hi hj).mono hle⟩
   | row st' n' f' =>
     obtain ⟨g1, old⟩ := old
     refine ⟨g1, old.imp (fun x => x) ?_⟩
     rintro ⟨b', c', e', h1, h2, h3, h4⟩
     exact ⟨b', c', e', h1, h2, fun hx => hx.elim h3 (hne b' h1), h4.1, h4.2.1, fun i j hi hj => (h4.2.2 i j hi hj).mono hle⟩
   | memo F =>
     obtain ⟨b', es, k, h1, h2, h3, h4⟩ := old
     exact ⟨b', es, k, h1, h2, fun hx => hx.elim h3 (hne b' h1), h4⟩
   | raw o =>
     obtain ⟨b', h1, h2, h3, h4⟩ := old
     exact ⟨b', h1, h2, h3, fun hx => hx.elim h4 (hne b' h1)⟩
   | iter mid since seen c0 =>
     obtain ⟨r', b', h1, h2, h3, h4⟩ := old
     exact ⟨r', b', h1, h2, h3, fun hx => hx.elim h4 (hne r' h1)⟩
   | loop l n s ps assign body st pend did =>
     obtain ⟨h1, h2, fn, tmps, D, h3, h4, h5, h6⟩ := old
     exact ⟨h1, fun hx => hx.elim h2 (hne l h1), fn, tmps, D, h3, h4, h5.mono hle, h6⟩
  ·intro i j o o' x hi hj
   have ne : i ≠ id := by intro e; simp [Hp.del, e] at hi
   have ne' : j ≠ id := by intro e; simp [Hp.del, e] at hj
   rw [Hp.del_ne _ ne] at hi
   rw [Hp.del_ne _ ne'] at hj
   exact hH.inj i j o o' x hi hj
 ·intro i j v this
  cases this with
  | ref hl' =>
    rw [hl] at hl'; cases hl'
    have := VRel.rptr (S := S.frz b) (i := i) (j := j) (off := 0) (.inr rfl) hb (by rw [Nat.zero_add]; exact hc.1) hc.2.1 (fun i j hi hj => by rw [Nat.zero_add]; exact (hc.2.2 i j hi hj).mono hle)
    rw [Nat.zero_add] at this
    exact this

/-- The box becomes its data in every slot that points to it. -/
theorem Ent.freezeB {s s' : Fr} {ds : List AD} {H : Hp} {K : Fr → List AD → Hp → Prop} {id st n : Nat} {f : Nat → List AV} (ho : H id = some (.box st n f))
  (hs : ∀ t, s' t = s t ∨ ∃ i j, s t = .ref id 0 st i j ∧ s' t = .rptr n st f i j) (h : K s' ds (H.del id)) : Ent s ds H K := by
 intro S a hH hF hD
 obtain ⟨S2, hw, hle, h2, hc⟩ := frz_stepB hH ho
 refine ⟨S2, s', ds, H.del id, hw, hle, h2, fun t => ?_, hD.mono hle, h⟩
 rcases hs t with e | ⟨i, j, e1, e2⟩
 ·rw [e]; exact (hF t).mono hle
 ·rw [e2]
  have := hF t
  rw [e1] at this
  exact hc _ _ _ this

/-- A rule for a smaller heap holds for the larger one. -/
theorem Tri.less {P : Program} {fv : AV} {args : List AV} {H H' : Hp} {R : Res → Hp → Prop} (hs : HSub H H') (h : Tri P fv args H' R) : Tri P fv args H R :=
 fun S vf vs hH => h S vf vs (hH.sub hs)
end Go.V
end
section
namespace Go.V
set_option linter.unusedSectionVars false
variable [Inhabited GivT]
variable {α : Type}
/-- What is told of two, where either may be missing. -/
def comb (join : α → α → α) : Option α → Option α → Option α
 | none, y => y
 | some a, none => some a
 | some a, some b => some (join a b)
/-- Of all of a list. -/
def foldJ (join : α → α → α) : List α → Option α
 | [] => none
 | a :: l => comb join (some a) (foldJ join l)
end Go.V
end
section
set_option linter.unusedVariables false
set_option linter.unusedSimpArgs false
namespace Go.V
set_option linter.unusedSectionVars false
/-- The first set of a size, from one on, that suits. -/
def inn (f : Nat → Bool) (z : Nat) : Nat → Nat → Option Nat
 | 0, _ => none
 | n + 1, j => if (decide (pop j = z) && f j) = true then some j else inn f z n (j + 1)
def outF (f : Nat → Bool) (m : Nat) : Nat → Nat → Option Nat
 | 0, _ => none
 | n + 1, z => match inn f z (2 ^ m) 0 with
   | some j => some j
   | none => outF f m n (z + 1)
def fewV (f : Nat → Bool) (m : Nat) : Option Nat := outF f m (m + 1) 0
/-- The last of all sets that are smaller than those before. -/
def bsN (f : Nat → Bool) (b : Nat) : Nat → Nat
 | 0 => b
 | j + 1 => if (decide (pop j < pop (bsN f b j)) && f j) = true then j else bsN f b j
def rset (f : Nat → Bool) (m : Nat) : Option Nat := if f (2 ^ m - 1) = true then some (bsN f (2 ^ m - 1) (2 ^ m)) else none
def setE (e : Int) (r : Option Nat) : Int := if e = 0 then (if r.isSome = true then 0 else 4) else e
def setV (e : Int) (r : Option Nat) : Nat := if setE e r = 0 then r.getD 0 else 0
/-- The least set that suits. -/
structure LeastSet (f : Nat → Bool) (m r : Nat) : Prop where
 lt : r < 2 ^ m
 is : f r = true
 le : ∀ i, i < 2 ^ m → f i = true → pop r < pop i ∨ pop r = pop i ∧ r ≤ i
theorem LeastSet.uniq {f : Nat → Bool} {m r r' : Nat} (h : LeastSet f m r) (h' : LeastSet f m r') : r = r' := by
 have h1 := h.le r' h'.lt h'.is
 have h2 := h'.le r h.lt h.is
 omega
section
variable [Inhabited GivT]
noncomputable def cdec (p : Prop) : Bool := @decide p (Classical.propDecidable p)
noncomputable def filP {α : Type} (p : α → Prop) (l : List α) : List α := l.filter fun a => cdec (p a)
/-- The least number with a property, if there is one. -/
structure MinS (o : Option Int) (S : Int → Prop) : Prop where
 le : ∀ x, S x → ∃ m, o = some m ∧ m ≤ x
 is : ∀ m, o = some m → S m
theorem MinS.uniq {o o' : Option Int} {S : Int → Prop} (h : MinS o S) (h' : MinS o' S) : o = o' := by
 cases ho : o with
 | none =>
   cases ho' : o' with
   | none => rfl
   | some m =>
     obtain ⟨q, hq, _⟩ := h.le m (h'.is m ho')
     rw [ho] at hq; cases hq
 | some m =>
   obtain ⟨q, hq, h1⟩ := h'.le m (h.is m ho)
   obtain ⟨q2, hq2, h2⟩ := h.le q (h'.is q hq)
   rw [ho] at hq2
   cases hq2
   rw [hq]
   congr 1
   omega
theorem MinS.congr {o : Option Int} {S S' : Int → Prop} (h : MinS o S) (e : ∀ x, S x ↔ S' x) : MinS o S' :=
 ⟨fun x hx => h.le x ((e x).2 hx), fun m hm => (e m).1 (h.is m hm)⟩
def mnG {α : Type} (f : α → Int) (L : List α) (d : α) : Nat → α
 | 0 => L.getD 0 d
 | i + 1 => if f (L.getD i d) < f (mnG f L d i) then L.getD i d else mnG f L d i
end
end Go.V
end
section
set_option linter.unusedVariables false
set_option linter.unusedSimpArgs false
namespace Go.Proofs.Ytclkjifgipcamaa
open Go.V
/-- A sum of the first so many. -/
def smZ (f : Nat → Int) : Nat → Int
 | 0 => 0
 | n + 1 => smZ f n + f n
theorem smZ_le {f g : Nat → Int} : ∀ n, (∀ i, i < n → f i ≤ g i) → smZ f n ≤ smZ g n
 | 0, _ => Int.le_refl _
 | n + 1, h => by
   have := smZ_le n fun i hi => h i (by omega)
   have := h n (by omega)
   simp only [smZ]; omega
theorem smZ_congr {f g : Nat → Int} (n : Nat) (h : ∀ i, i < n → f i = g i) : smZ f n = smZ g n :=
 Int.le_antisymm (smZ_le n fun i hi => by rw [h i hi]; exact Int.le_refl _) (smZ_le n fun i hi => by rw [h i hi]; exact Int.le_refl _)
theorem smZ_add (f g : Nat → Int) : ∀ n, smZ (fun i => f i + g i) n = smZ f n + smZ g n
 | 0 => rfl
 | n + 1 => by simp only [smZ, smZ_add f g n]; omega
/-- Seams, how many blows each opens at, and how often each has another one beside it. -/
structure Dv where
 n : Nat
 lim : Nat → Int
 cnt : Nat → Nat → Int
structure Dv.Ok (d : Dv) : Prop where
 c0 : ∀ i j, 0 ≤ d.cnt i j
 self : ∀ i, d.cnt i i = 0
 less : ∀ i, i < d.n → smZ (d.cnt i) d.n + 1 ≤ d.lim i
/-- What is left if each seam has opened so often. -/
def Dv.res (d : Dv) (b u : Nat → Int) (j : Nat) : Int := b j - u j * d.lim j + smZ (fun i => u i * d.cnt i j) d.n
/-- So many more on one seam. -/
def upZ (u : Nat → Int) (i : Nat) (k : Int) : Nat → Int := fun j => if j = i then u j + k else u j
def Dv.fire (d : Dv) (b : Nat → Int) (i : Nat) (k : Int) : Nat → Int := fun j => (if j = i then b j - k * d.lim j else b j) + k * d.cnt i j
/-- Seams that open, one after another, each when it can. -/
inductive Dv.Run (d : Dv) (b : Nat → Int) : (Nat → Int) → Prop
 | start : Dv.Run d b fun _ => 0
 | step {u : Nat → Int} {i : Nat} (h : Dv.Run d b u) (hi : i < d.n) (hl : d.lim i ≤ d.res b u i) : Dv.Run d b (upZ u i 1)
def Dv.Still (d : Dv) (b u : Nat → Int) : Prop := ∀ i, i < d.n → d.res b u i < d.lim i
theorem Dv.Run.nonneg {d : Dv} {b u : Nat → Int} (h : d.Run b u) : ∀ i, 0 ≤ u i := by
 induction h with
 | start => exact fun _ => Int.le_refl _
 | step h hi hl ih =>
   intro j
   have := ih j
   unfold upZ
   split <;> omega
theorem Dv.Run.out {d : Dv} {b u : Nat → Int} (h : d.Run b u) : ∀ i, d.n ≤ i → u i = 0 := by
 induction h with
 | start => exact fun _ _ => rfl
 | @step u i h hi hl ih =>
   intro j hj
   unfold upZ
   rw [if_neg (by omega)]
   exact ih j hj
/-- No seam opens more often than in any way that ends at rest. -/
theorem Dv.least {d : Dv} (ok : d.Ok) {b u v : Nat → Int} (h : d.Run b u) (hv : d.Still b v) (h0 : ∀ i, 0 ≤ v i) : ∀ i, i < d.n → u i ≤ v i := by
 induction h with
 | start => exact fun i _ => h0 i
 | @step u i h hi hl ih =>
   intro j hj
   unfold upZ
   by_cases e : j = i
   ·subst e
    rw [if_pos rfl]
    have h1 := ih j hj
    rcases Int.lt_or_le (u j) (v j) with q | q
    ·omega
    ·have e2 : u j = v j := by omega
     have h2 := hv j hj
     have h3 : smZ (fun i => u i * d.cnt i j) d.n ≤ smZ (fun i => v i * d.cnt i j) d.n := smZ_le d.n fun q hq => Int.mul_le_mul_of_nonneg_right (ih q hq) (ok.c0 q j)
     unfold Dv.res at hl h2
     rw [e2] at hl
     omega
   ·rw [if_neg e]; exact ih j hj
theorem Dv.uniq {d : Dv} (ok : d.Ok) {b u v : Nat → Int} (h1 : d.Run b u) (s1 : d.Still b u) (h2 : d.Run b v) (s2 : d.Still b v) : ∀ i, u i = v i := fun i => by
 by_cases hi : i < d.n
 ·have a := Dv.least ok h1 s2 h2.nonneg i hi
  have c := Dv.least ok h2 s1 h1.nonneg i hi
  omega
 ·rw [h1.out i (by omega), h2.out i (by omega)]
/-- What opens with more blows begins with what opens with fewer. -/
theorem Dv.Run.more {d : Dv} {b b' u : Nat → Int} (hb : ∀ i, b i ≤ b' i) (h : d.Run b u) : d.Run b' u := by
 induction h with
 | start => exact .start
 | @step u i h hi hl ih =>
   refine .step ih hi ?_
   have := hb i
   unfold Dv.res at hl ⊢
   omega
theorem Dv.res_add (d : Dv) (b u w : Nat → Int) : d.res (d.res b u) w = d.res b (fun i => u i + w i) := by
 funext j
 have : smZ (fun i => (u i + w i) * d.cnt i j) d.n = smZ (fun i => u i * d.cnt i j) d.n + smZ (fun i => w i * d.cnt i j) d.n := by
  rw [← smZ_add]
  exact smZ_congr d.n fun i _ => Int.add_mul _ _ _
 unfold Dv.res
 rw [this, Int.add_mul]
 omega
theorem Dv.Run.join {d : Dv} {b u w : Nat → Int} (h : d.Run b u) (h2 : d.Run (d.res b u) w) : d.Run b (fun i => u i + w i) := by
 induction h2 with
 | start =>
   have : (fun i => u i + (0 : Int)) = u := by funext i; omega
   rw [this]; exact h
 | @step w i h2 hi hl ih =>
   rw [Dv.res_add] at hl
   have h3 := Dv.Run.step ih hi hl
   have : upZ (fun i => u i + w i) i 1 = fun j => u j + upZ w i 1 j := by
    funext j; dsimp only [upZ]
    split <;> omega
   rw [this] at h3
   exact h3
/-- One blow more: what opens then is what opened, and what this blow opens. -/
theorem Dv.chain {d : Dv} (ok : d.Ok) {b u w v : Nat → Int} {s : Nat} (h1 : d.Run b u) (h2 : d.Run (upZ (d.res b u) s 1) w) (s2 : d.Still (upZ (d.res b u) s 1) w) (h3 : d.Run (upZ b s 1) v) (s3 : d.Still (upZ b s 1) v) :
  ∀ i, v i = u i + w i := by
 have e : d.res (upZ b s 1) u = upZ (d.res b u) s 1 := by
  funext j
  dsimp only [Dv.res, upZ]
  split <;> omega
 have hm : d.Run (upZ b s 1) u := h1.more fun i => by unfold upZ; split <;> omega
 rw [← e] at h2 s2
 have hj := hm.join h2
 refine Dv.uniq ok h3 s3 hj fun i hi => ?_
 rw [← Dv.res_add]
 exact s2 i hi
def Dv.tot (d : Dv) (b : Nat → Int) : Int := smZ b d.n
end Go.Proofs.Ytclkjifgipcamaa
end
section
set_option linter.unusedVariables false
set_option linter.unusedSimpArgs false
namespace Go.Proofs.Ytclkjifgipcamaa
open Go.V
/-- A seam: its height, side, and what it lets in at most; a sounding: draught, list, and the flow. -/
structure Lk where
 ht : Int
 sd : Int
 mo : Int
structure Ls where
 dr : Int
 li : Int
 lo : Int
 hi : Int
structure Hl where
 sm : List Lk
 so : List Ls
def lk0 : Lk := ⟨0, 0, 0⟩
def ls0 : Ls := ⟨0, 0, 0, 0⟩
def Hl.N (h : Hl) : Nat := h.sm.length
def Hl.seam (h : Hl) (i : Nat) : Lk := h.sm.getD i lk0
def Hl.snd (h : Hl) (q : Nat) : Ls := h.so.getD q ls0
def Hl.M (h : Hl) (i : Nat) : Nat := (h.seam i).mo.toNat
/-- Which seams are under water. -/
def wetB (h : Hl) (dr li : Int) (i : Nat) : Bool := decide ((h.seam i).ht ≤ dr + (h.seam i).sd * li)
def wetN (h : Hl) (dr li : Int) : Nat → Nat
 | 0 => 0
 | i + 1 => if wetB h dr li i = true then wetN h dr li i ||| 2 ^ i else wetN h dr li i
def wetS (h : Hl) (dr li : Int) : Nat := wetN h dr li h.N
theorem wetN_bit (h : Hl) (dr li : Int) (j : Nat) : ∀ i, (wetN h dr li i).testBit j = (decide (j < i) && wetB h dr li j)
 | 0 => by simp [wetN]
 | i + 1 => by
   simp only [wetN]
   have ih := wetN_bit h dr li j i
   split
   ·rename_i hb
    rw [Nat.testBit_or, ih, Nat.testBit_two_pow]
    by_cases e : i = j
    ·subst e; simp [hb]
    ·have : decide (j < i + 1) = decide (j < i) := decide_eq_decide.2 (by omega)
     simp [e, this]
   ·rename_i hb
    rw [ih]
    by_cases e : i = j
    ·subst e; simp at hb; simp [hb]
    ·have : decide (j < i + 1) = decide (j < i) := decide_eq_decide.2 (by omega)
     rw [this]
theorem wetN_lt (h : Hl) (dr li : Int) (i : Nat) : wetN h dr li i < 2 ^ i := by
 refine Nat.lt_pow_two_of_testBit _ fun j hj => ?_
 rw [wetN_bit, decide_eq_false (by omega)]; rfl
theorem wetS_bit (h : Hl) (dr li : Int) {j : Nat} (hj : j < h.N) : (wetS h dr li).testBit j = wetB h dr li j := by
 unfold wetS; rw [wetN_bit, decide_eq_true hj, Bool.true_and]
/-- What the first seams of a set let in. -/
def inn (S : Nat) (b : List Int) (i : Nat) : Int := if S.testBit i = true then b.getD i 0 else 0
def lsN (S : Nat) (b : List Int) (n : Nat) : Int := smZ (inn S b) n
/-- What seams behind the first ones let in at most. -/
def mos (h : Hl) (S : Nat) (a i : Nat) : Int := if a ≤ i ∧ S.testBit i = true then (h.M i : Int) else 0
def moN (h : Hl) (S : Nat) (a n : Nat) : Int := smZ (mos h S a) n
def okQ (h : Hl) (b : List Int) (q : Nat) : Bool :=
 decide (lsN (wetS h (h.snd q).dr (h.snd q).li) b b.length ≤ (h.snd q).hi) && decide ((h.snd q).lo ≤ lsN (wetS h (h.snd q).dr (h.snd q).li) b b.length + moN h (wetS h (h.snd q).dr (h.snd q).li) b.length h.N)
def okP (h : Hl) (b : List Int) : Bool := (List.range h.so.length).all (okQ h b)
def infl (h : Hl) : Nat → List Int → List (List Int)
 | 0, b => [b]
 | n + 1, b => (List.range (h.M b.length + 1)).flatMap fun x : Nat => if okP h (b ++ [(x : Int)]) = true then infl h n (b ++ [(x : Int)]) else []
def allT (h : Hl) : List (List Int) := infl h h.N []
/-- What seams can let in. -/
structure Tru (h : Hl) (l : List Int) : Prop where
 len : l.length = h.N
 at_ : ∀ i, i < h.N → 0 ≤ l.getD i 0 ∧ l.getD i 0 ≤ h.M i
 so : ∀ q, q < h.so.length → (h.snd q).lo ≤ lsN (wetS h (h.snd q).dr (h.snd q).li) l h.N ∧ lsN (wetS h (h.snd q).dr (h.snd q).li) l h.N ≤ (h.snd q).hi
theorem smZ_shift {f g : Nat → Int} {a : Nat} : ∀ n, a ≤ n → (∀ i, i < a → f i = g i) → (∀ i, a ≤ i → i < n → f i = 0) → smZ f n = smZ g a
 | 0, h, _, _ => by rw [show a = 0 by omega]; rfl
 | n + 1, h, h1, h2 => by
   by_cases e : a = n + 1
   ·subst e; exact smZ_congr _ fun i hi => h1 i hi
   ·have := smZ_shift n (by omega) h1 fun i hi hn => h2 i hi (by omega)
    simp only [smZ]
    rw [this, h2 n (by omega) (by omega)]
    omega
theorem lsN_congr {S : Nat} {b l : List Int} {n : Nat} (h : ∀ i, i < n → b.getD i 0 = l.getD i 0) : lsN S b n = lsN S l n :=
 smZ_congr n fun i hi => by unfold inn; rw [h i hi]
theorem moN_end (h : Hl) (S : Nat) {a n : Nat} (hn : n ≤ a) : moN h S a n = 0 := by
 have : moN h S a n = smZ (fun _ => 0) 0 := smZ_shift (g := fun _ => 0) (a := 0) n (Nat.zero_le _) (fun i hi => by omega) fun i _ hi => by
  unfold mos; rw [if_neg (by omega)]
 rw [this]; rfl
/-- What is so of all is so of the first ones. -/
theorem okQ_pre {h : Hl} {b l : List Int} {q : Nat} (hb : b.length ≤ l.length) (hl : l.length ≤ h.N) (he : ∀ i, i < b.length → b.getD i 0 = l.getD i 0) (hr : ∀ i, i < l.length → 0 ≤ l.getD i 0 ∧ l.getD i 0 ≤ h.M i) (hq : okQ h l q = true) : okQ h b q = true := by
 unfold okQ at hq ⊢
 generalize wetS h (h.snd q).dr (h.snd q).li = S at *
 rw [Bool.and_eq_true, decide_eq_true_eq, decide_eq_true_eq] at hq ⊢
 have e1 : lsN S b b.length = lsN S l b.length := lsN_congr he
 have h1 : lsN S l b.length ≤ lsN S l l.length := by
  have : lsN S l b.length = smZ (fun i => if i < b.length then inn S l i else 0) l.length := by
   refine (smZ_shift l.length hb (fun i hi => if_pos hi) fun i hi _ => if_neg (by omega)).symm
  rw [this]
  refine smZ_le _ fun i hi => ?_
  have := hr i hi
  unfold inn
  split <;> split <;> omega
 have h2 : lsN S l l.length + moN h S l.length h.N ≤ lsN S l b.length + moN h S b.length h.N := by
  have e2 : lsN S l l.length = smZ (fun i => if i < l.length then inn S l i else 0) h.N := (smZ_shift h.N hl (fun i hi => if_pos hi) fun i hi _ => if_neg (by omega)).symm
  have e3 : lsN S l b.length = smZ (fun i => if i < b.length then inn S l i else 0) h.N := (smZ_shift h.N (by omega) (fun i hi => if_pos hi) fun i hi _ => if_neg (by omega)).symm
  unfold moN
  rw [e2, e3, ← smZ_add, ← smZ_add]
  refine smZ_le _ fun i hi => ?_
  by_cases hS : S.testBit i = true
  ·have e4 : inn S l i = l.getD i 0 := if_pos hS
   have e5 : ∀ a, mos h S a i = if a ≤ i then (h.M i : Int) else 0 := fun a => by
    unfold mos
    by_cases ha : a ≤ i
    ·rw [if_pos ⟨ha, hS⟩, if_pos ha]
    ·rw [if_neg (fun q => ha q.1), if_neg ha]
   rw [e4, e5, e5]
   by_cases h1 : i < b.length
   ·rw [if_pos (by omega), if_neg (by omega), if_pos h1, if_neg (by omega)]; omega
   ·by_cases h3 : i < l.length
    ·have := hr i h3
     rw [if_pos h3, if_neg (by omega), if_neg h1, if_pos (by omega)]; omega
    ·rw [if_neg h3, if_pos (by omega), if_neg h1, if_pos (by omega)]; omega
  ·have e4 : inn S l i = 0 := if_neg hS
   have e5 : ∀ a, mos h S a i = 0 := fun a => if_neg (fun q => hS q.2)
   rw [e4, e5, e5]
   split <;> split <;> omega
 omega
theorem okP_pre {h : Hl} {b l : List Int} (hb : b.length ≤ l.length) (hl : l.length ≤ h.N) (he : ∀ i, i < b.length → b.getD i 0 = l.getD i 0) (hr : ∀ i, i < l.length → 0 ≤ l.getD i 0 ∧ l.getD i 0 ≤ h.M i) (hq : okP h l = true) : okP h b = true := by
 unfold okP at hq ⊢
 rw [List.all_eq_true] at hq ⊢
 exact fun q hm => okQ_pre hb hl he hr (hq q hm)
theorem lapp {α : Type} (b m : List α) (d : α) {i : Nat} (h : i < b.length) : (b ++ m).getD i d = b.getD i d := by simp [List.getD_eq_getElem?_getD, List.getElem?_append_left h]
theorem lappR {α : Type} (b m : List α) (d : α) (i : Nat) : (b ++ m).getD (b.length + i) d = m.getD i d := by simp [List.getD_eq_getElem?_getD, List.getElem?_append_right]
theorem mem_infl {h : Hl} : ∀ (n : Nat) (b l : List Int), b.length + n = h.N → (∀ i, i < b.length → 0 ≤ b.getD i 0 ∧ b.getD i 0 ≤ h.M i) →
  (l ∈ infl h n b ↔ ∃ m, l = b ++ m ∧ m.length = n ∧ (∀ i, i < h.N → 0 ≤ l.getD i 0 ∧ l.getD i 0 ≤ h.M i) ∧ (0 < n → okP h l = true)) := by
 intro n
 induction n with
 | zero =>
   intro b l hb hr
   simp only [infl, List.mem_singleton]
   constructor
   ·rintro rfl
    exact ⟨[], by simp, rfl, fun i hi => hr i (by omega), fun q => absurd q (Nat.lt_irrefl _)⟩
   ·rintro ⟨m, e, hm, _⟩
    rw [e, List.length_eq_zero_iff.1 hm, List.append_nil]
 | succ n ih =>
   intro b l hb hr
   have hbx : ∀ x : Int, (b ++ [x]).length = b.length + 1 := fun x => by simp
   have hrx : ∀ x : Nat, x < h.M b.length + 1 → ∀ i, i < (b ++ [(x : Int)]).length → 0 ≤ (b ++ [(x : Int)]).getD i 0 ∧ (b ++ [(x : Int)]).getD i 0 ≤ h.M i := fun x hx i hi => by
    rw [hbx] at hi
    by_cases e : i < b.length
    ·rw [lapp _ _ _ e]; exact hr i e
    ·have e2 : i = b.length + 0 := by omega
     rw [e2, lappR]
     show 0 ≤ (x : Int) ∧ (x : Int) ≤ h.M (b.length + 0)
     rw [Nat.add_zero]
     omega
   simp only [infl, List.mem_flatMap, List.mem_range]
   constructor
   ·rintro ⟨x, hx, hl⟩
    split at hl
    ·rename_i hok
     obtain ⟨m, e, h1, h2, h3⟩ := (ih (b ++ [(x : Int)]) l (by rw [hbx]; omega) (hrx x hx)).1 hl
     refine ⟨(x : Int) :: m, by rw [e]; simp, by simp [h1], h2, fun _ => ?_⟩
     rcases Nat.eq_zero_or_pos n with q | q
     ·subst q
      rw [e, List.length_eq_zero_iff.1 h1, List.append_nil]
      exact hok
     ·exact h3 q
    ·cases hl
   ·rintro ⟨m, e, h1, h2, h3⟩
    obtain ⟨y, m', rfl⟩ : ∃ y m', m = y :: m' := by
     cases m with
     | nil => simp at h1
     | cons y m' => exact ⟨y, m', rfl⟩
    have hy := h2 b.length (by omega)
    have ey : l.getD b.length 0 = y := by
     have := lappR b (y :: m') 0 0
     rw [← e, Nat.add_zero] at this
     exact this
    rw [ey] at hy
    obtain ⟨x, rfl⟩ : ∃ x : Nat, y = (x : Int) := ⟨y.toNat, by omega⟩
    have hm' : m'.length = n := by simpa using h1
    have el : l = (b ++ [(x : Int)]) ++ m' := by rw [e]; simp
    have hll : l.length = h.N := by rw [e, List.length_append, h1]; omega
    have hok : okP h (b ++ [(x : Int)]) = true := okP_pre (l := l) (by rw [hbx, hll]; omega) (by omega) (fun i hi => by rw [el, lapp _ _ _ hi]) (fun i hi => h2 i (by omega)) (h3 (by omega))
    refine ⟨x, by omega, ?_⟩
    rw [if_pos hok]
    exact (ih (b ++ [(x : Int)]) l (by rw [hbx]; omega) (hrx x (by omega))).2 ⟨m', el, hm', h2, fun _ => h3 (by omega)⟩
theorem mem_all {h : Hl} (hN : 0 < h.N) {l : List Int} : l ∈ allT h ↔ Tru h l := by
 unfold allT
 rw [mem_infl h.N [] l (Nat.zero_add _) fun i hi => absurd hi (Nat.not_lt_zero _)]
 have key : l.length = h.N → (okP h l = true ↔ ∀ q, q < h.so.length → (h.snd q).lo ≤ lsN (wetS h (h.snd q).dr (h.snd q).li) l h.N ∧ lsN (wetS h (h.snd q).dr (h.snd q).li) l h.N ≤ (h.snd q).hi) := fun hl => by
  unfold okP okQ
  rw [List.all_eq_true, hl]
  constructor
  ·intro hq q hs
   have := hq q (List.mem_range.2 hs)
   rw [Bool.and_eq_true, decide_eq_true_eq, decide_eq_true_eq, moN_end h _ (Nat.le_refl _)] at this
   omega
  ·intro hq q hs
   have := hq q (List.mem_range.1 hs)
   rw [Bool.and_eq_true, decide_eq_true_eq, decide_eq_true_eq, moN_end h _ (Nat.le_refl _)]
   omega
 constructor
 ·rintro ⟨m, e, h1, h2, h3⟩
  rw [List.nil_append] at e
  subst e
  exact ⟨h1, h2, (key h1).1 (h3 hN)⟩
 ·intro t
  exact ⟨l, rfl, t.len, t.at_, fun _ => (key t.len).2 t.so⟩
def spnL (f : List Int → Int) (L : List (List Int)) : Nat → Int × Int
 | 0 => (f (L.getD 0 []), f (L.getD 0 []))
 | i + 1 => (min (spnL f L i).1 (f (L.getD i [])), max (spnL f L i).2 (f (L.getD i [])))
theorem spnL_spec (f : List Int → Int) (L : List (List Int)) (h : 0 < L.length) : ∀ i, i ≤ L.length → (∀ q, q < i → (spnL f L i).1 ≤ f (L.getD q []) ∧ f (L.getD q []) ≤ (spnL f L i).2) ∧ (∃ p, p < L.length ∧ (spnL f L i).1 = f (L.getD p [])) ∧ ∃ p, p < L.length ∧ (spnL f L i).2 = f (L.getD p [])
 | 0, _ => ⟨fun q hq => absurd hq (Nat.not_lt_zero _), ⟨0, h, rfl⟩, 0, h, rfl⟩
 | i + 1, hi => by
   obtain ⟨h1, ⟨p, hp, e1⟩, r, hr, e2⟩ := spnL_spec f L h i (by omega)
   refine ⟨fun q hq => ?_, ?_, ?_⟩
   ·simp only [spnL]
    by_cases e : q = i
    ·subst e; omega
    ·have := h1 q (by omega); omega
   ·simp only [spnL]
    rcases Int.le_total (spnL f L i).1 (f (L.getD i [])) with q | q
    ·exact ⟨p, hp, by rw [← e1]; omega⟩
    ·exact ⟨i, by omega, by omega⟩
   ·simp only [spnL]
    rcases Int.le_total (spnL f L i).2 (f (L.getD i [])) with q | q
    ·exact ⟨i, by omega, by omega⟩
    ·exact ⟨r, hr, by rw [← e2]; omega⟩
def spnV (f : List Int → Int) (L : List (List Int)) : Int × Int := spnL f L L.length
theorem spnV_in {f : List Int → Int} {L : List (List Int)} {l : List Int} (h : l ∈ L) : (spnV f L).1 ≤ f l ∧ f l ≤ (spnV f L).2 := by
 obtain ⟨i, hi, e⟩ := List.getElem_of_mem h
 have hp : 0 < L.length := by omega
 have := (spnL_spec f L hp L.length (Nat.le_refl _)).1 i hi
 have e2 : L.getD i [] = l := by rw [List.getD_eq_getElem?_getD, List.getElem?_eq_getElem hi, ← e]; rfl
 rw [e2] at this
 exact this
end Go.Proofs.Ytclkjifgipcamaa
end
section
set_option linter.unusedVariables false
set_option linter.unusedSimpArgs false
namespace Go.Proofs.Ytclkjifgipcamaa
open Go.V
/-- The sets that agree with what is known: which were raked, and which of these leak. -/
def agr (L : List Nat) (r q : Nat) : List Nat := L.filter fun s => decide (s &&& r = q)
/-- The first seam that is not raked of which a number is least. -/
def bsS (r : Nat) (val : Nat → Int) : Nat → Option (Nat × Int)
 | 0 => none
 | i + 1 => if r.testBit i = true then bsS r val i else match bsS r val i with
   | none => some (i, val i)
   | some (x, n) => if val i < n then some (i, val i) else some (x, n)
/-- The seam to rake, and how many fathoms are enough at worst. -/
def wsV (N : Nat) (F : Nat → Int) (L : List Nat) : Nat → Nat → Nat → Nat × Int
 | 0, _, _ => (0, 0)
 | m + 1, r, q => if (agr L r q).length ≤ 1 then (0, 0) else
   (bsS r (fun x => F x + max (max (wsV N F L m (r ||| 2 ^ x) (q ||| 2 ^ x)).2 (wsV N F L m (r ||| 2 ^ x) q).2) 0) N).getD (0, 0)
def wsX (N : Nat) (F : Nat → Int) (L : List Nat) (m r q x : Nat) : Int := F x + max (max (wsV N F L m (r ||| 2 ^ x) (q ||| 2 ^ x)).2 (wsV N F L m (r ||| 2 ^ x) q).2) 0
end Go.Proofs.Ytclkjifgipcamaa
end
section
set_option linter.unusedVariables false
set_option linter.unusedSimpArgs false
namespace Go.Proofs.Ytclkjifgipcamaa
open Go.V
/-- The set of the first numbers of which something is so. -/
def bitN (p : Nat → Bool) : Nat → Nat
 | 0 => 0
 | i + 1 => if p i = true then bitN p i ||| 2 ^ i else bitN p i
/-- A list of sets, each once, in order. -/
def setsD (L : List Nat) (N : Nat) : List Nat := (List.range (2 ^ N)).filter fun s => decide (s ∈ L)
open Classical in
/-- How often each seam has opened at rest. -/
noncomputable def Dv.stU (d : Dv) (b : Nat → Int) : Nat → Int := if h : ∃ u, d.Run b u ∧ d.Still b u then Classical.choose h else fun _ => 0
/-- Which seams are open at rest. -/
noncomputable def Dv.opn (d : Dv) (b : Nat → Int) : Nat := bitN (fun i => decide (0 < d.stU b i)) d.n
end Go.Proofs.Ytclkjifgipcamaa
end
section
set_option linter.unusedVariables false
set_option linter.unusedSimpArgs false
namespace Go.V
set_option linter.unusedSectionVars false
variable [Inhabited GivT]
theorem tri_bound {P : Program} {f : FuncId} {recv : AV} {args : List AV} {H : Hp} {R : Res → Hp → Prop} (h : Tri P (fnA f) (recv :: args) H R) :
  Tri P (.func (.func f) [recv] []) args H R := by
 intro S vf vs hH hvf ha
 cases hvf with
 | @func _ _ _ ws us hn hu h1 h2 =>
   have hw : ∃ x, ws = #[x] := by
    have : ws.size = 1 := by simpa using hn
    exact ⟨ws[0], Array.ext (by simp [this]) (fun i h1 h2 => by
     have : i = 0 := by simp at h2; omega
     subst this; rfl)⟩
   obtain ⟨x, rfl⟩ := hw
   have hus : us = #[] := by simpa using hu
   subst hus
   have hx := h1 0 (by simp)
   simp only [List.getD_cons_zero] at hx
   have hx' : VRel S recv x := by simpa [Array.getD_eq_getD_getElem?] using hx
   obtain ⟨nx, e1, e2⟩ := h S (.func (.func f) #[] #[]) (x :: vs) hH (.func rfl rfl (fun k hk => absurd hk (by simp)) (fun k hk => absurd hk (by simp)))
     ⟨by simp [ha.1], fun k hk => by
      cases k with
      | zero => exact hx'
      | succ k => simpa using ha.2 k (by simpa using hk)⟩
   refine ⟨nx, ?_, e2⟩
   rw [← e1]
   simp only [Deferred.ofValue, Sem.run_bind, Sem.run_pure, Result.andThen_ok, invoke]
   simp
end Go.V
end
section
set_option linter.unusedVariables false
set_option linter.unusedSimpArgs false
namespace Go.V
set_option linter.unusedSectionVars false
variable [Inhabited GivT]
theorem mapM_all {α β : Type} {f : α → Option β} {g : α → β} : ∀ {l : List α}, (∀ a ∈ l, f a = some (g a)) → l.mapM f = some (l.map g)
 | [], _ => rfl
 | a :: l, h => by
   rw [List.mapM_cons, h a (by simp), mapM_all (fun b hb => h b (by simp [hb]))]; rfl

def keyJ (P : Program) : Nat → TypeId → Option Nat
 | 0, _ => none
 | d + 1, T => match P.underlying T with
   | some (.int .i64) => if P.cellsOf T = 1 then some 1 else none
   | some (.array n e) => match d, P.underlying e with
     | _ + 1, some (.int .i64) => if P.cellsOf e = 1 ∧ P.cellsOf T = n then some n else none
     | _, _ => none
   | some (.struct fs) => match keyFs P (keyJ P d) fs.toList 0 with
     | some n => if P.cellsOf T = n then some n else none
     | none => none
   | _ => none

theorem keyJ_spec {P : Program} : ∀ (d : Nat) (T n : Nat), keyJ P d T = some n → P.cellsOf T = n ∧
  ∀ D, d ≤ D → ∀ l : List Int, l.length = n → (∀ x ∈ l, (Lit.int .i64 x).wf = true) → P.keyLits D T (l.map (Value.int .i64)) = some (l.map (Lit.int .i64))
 | 0, _, _, h => by simp [keyJ] at h
 | d + 1, T, n, h => by
   simp only [keyJ] at h
   split at h
   case h_4 => cases h
   case h_1 hu =>
    split at h
    case isFalse => cases h
    case isTrue hc =>
     cases h
     refine ⟨hc, fun D hD l hl hw => ?_⟩
     obtain ⟨D', rfl⟩ : ∃ D', D = D' + 1 := ⟨D - 1, by omega⟩
     match l, hl with
     | [a], _ =>
       have := hw a (by simp)
       simp [Program.keyLits, hu, this]
   case h_2 m e hu =>
    split at h
    case h_2 => cases h
    case h_1 hd he =>
     split at h
     case isFalse => cases h
     case isTrue hc =>
      cases h
      refine ⟨hc.2, fun D hD l hl hw => ?_⟩
      obtain ⟨D', rfl⟩ : ∃ D', D = D' + 2 := ⟨D - 2, by omega⟩
      subst hl
      have key : ∀ i ∈ List.range l.length, P.keyLits (D' + 1) e (((l.map (Value.int .i64)).drop (i * P.cellsOf e)).take (P.cellsOf e)) = some [Lit.int .i64 (l.getD i 0)] := fun i hi => by
       rw [List.mem_range] at hi
       have e1 : ((l.map (Value.int .i64)).drop (i * P.cellsOf e)).take (P.cellsOf e) = [Value.int .i64 (l.getD i 0)] := by
        rw [hc.1, Nat.mul_one, List.drop_eq_getElem_cons (by simpa using hi)]
        simp [List.getD, hi]
       have hm : l.getD i 0 ∈ l := by simp [List.getD, hi]
       rw [e1]
       have hw2 := hw _ hm
       unfold Program.keyLits
       simp only [he, hw2, and_self, if_true]
      rw [Program.keyLits]
      rotate_left 3
      ·exact hu
      simp only [List.length_map, hc.2, if_true]
      rw [mapM_all key, Option.map_some]
      congr 1
      have : ∀ l : List Int, ((List.range l.length).map fun i => [Lit.int .i64 (l.getD i 0)]).flatten = l.map (Lit.int .i64) := fun l => by
       rw [← List.flatMap_def]
       apply List.ext_getElem?
       intro j
       induction l generalizing j with
       | nil => simp
       | cons a l ih =>
         rw [List.length_cons, List.range_succ_eq_map, List.flatMap_cons, List.flatMap_map]
         cases j with
         | zero => simp
         | succ j => simpa using ih j
      exact this l
   case h_3 fs hu =>
    split at h
    case h_2 => cases h
    case h_1 n' hk =>
     split at h
     case isFalse => cases h
     case isTrue hc =>
      cases h
      refine ⟨hc, fun D hD l hl hw => ?_⟩
      obtain ⟨D', rfl⟩ : ∃ D', D = D' + 1 := ⟨D - 1, by omega⟩
      subst hl
      obtain ⟨hn, Ls, hm, hfl⟩ := keyFs_spec (P := P) (D := D') (g := keyJ P d) (l := l) (fun T n hT => by
       obtain ⟨g1, g2⟩ := keyJ_spec d T n hT
       refine ⟨g1, fun o ho => ?_⟩
       have := g2 D' (by omega) ((l.drop o).take n) (by simp; omega) (fun x hx => hw x (List.mem_of_mem_drop (List.mem_of_mem_take hx)))
       rw [← this, List.map_take, List.map_drop]) fs.toList 0 hk (by omega)
      have hall : fs.all (fun f => f.name != "_") = true := by
       rw [Array.all_eq_true_iff_forall_mem]
       intro f hf
       have := hn f (by simpa using hf)
       simpa using this
      simp only [Program.keyLits, hu, List.length_map, hc, hall, true_and, if_true, hm, Option.map_some, hfl, List.drop_zero]

end Go.V
end
section
set_option linter.unusedVariables false
set_option linter.unusedSimpArgs false
namespace Go.V
set_option linter.unusedSectionVars false
variable [Inhabited GivT]
/-- The same value, with some leaves told otherwise. -/
inductive FrzX (L : AV → AV → Prop) : AV → AV → Prop
 | same (x : AV) : FrzX L x x
 | leaf {x y : AV} (h : L x y) : FrzX L x y
 | agg {cs cs' : List AV} (hl : cs'.length = cs.length) (h : ∀ k, k < cs.length → FrzX L (cs.getD k .any) (cs'.getD k .any)) : FrzX L (.agg cs) (.agg cs')
 | tuple {cs cs' : List AV} (hl : cs'.length = cs.length) (h : ∀ k, k < cs.length → FrzX L (cs.getD k .any) (cs'.getD k .any)) : FrzX L (.tuple cs) (.tuple cs')
 | rptr {n st i j : Nat} {f g : Nat → List AV} (hl : ∀ k, k < n → (f k).length = st → (g k).length = st) (h : ∀ k l, k < n → l < st → FrzX L ((f k).getD l .any) ((g k).getD l .any)) : FrzX L (.rptr n st f i j) (.rptr n st g i j)
 | func {fn : Fn} {a b a' b' : List AV} (hl : a'.length = a.length) (hm : b'.length = b.length) (h : ∀ k, k < a.length → FrzX L (a.getD k .any) (a'.getD k .any)) (h' : ∀ k, k < b.length → FrzX L (b.getD k .any) (b'.getD k .any)) : FrzX L (.func fn a b) (.func fn a' b')

theorem FrzX.conv {L : AV → AV → Prop} {S S2 : St} (hle : Le S S2) (hc : ∀ x y, L x y → ∀ v, VRel S x v → VRel S2 y v) {x y : AV} (hxy : FrzX L x y) : ∀ v, VRel S x v → VRel S2 y v := by
 induction hxy with
 | same x => intro v hv; exact hv.mono hle
 | leaf h => intro v hv; exact hc _ _ h v hv
 | agg hl h ih =>
   intro v hv
   cases hv with
   | agg hn hv => exact .agg (hn.trans hl.symm) fun k hk => ih k (by omega) _ (hv k (by omega))
 | tuple hl h ih =>
   intro v hv
   cases hv with
   | tuple hn hv => exact .tuple (hn.trans hl.symm) fun k hk => ih k (by omega) _ (hv k (by omega))
 | @rptr n st i j f g hl h ih =>
   intro v hv
   cases hv with
   | rptr hi hb hsz hf hh =>
     exact .rptr (hle.imm _ hi) ((hle.keep _ hi).trans hb) hsz (fun k hk => hl k hk (hf k hk)) (fun k l hk hl2 => ih k l hk hl2 _ (hh k l hk hl2))
 | func hl hm h h' ih ih' =>
   intro v hv
   cases hv with
   | func hn hn' h1 h2 => exact .func (hn.trans hl.symm) (hn'.trans hm.symm) (fun k hk => ih k (by omega) _ (h1 k (by omega))) (fun k hk => ih' k (by omega) _ (h2 k (by omega)))

def Lb (id st n : Nat) (f : Nat → List AV) (x y : AV) : Prop := ∃ i j, x = .ref id 0 st i j ∧ y = .rptr n st f i j
def Lr (id st n : Nat) (f : Nat → List AV) (x y : AV) : Prop := x = .sl id st n ∧ ∃ g, (∀ i, i < n → f i = g i) ∧ y = .rsl n st g

/-- A box, or a row, that is handed back, to be written no more. -/
theorem Tri.thawX {P : Program} {fv : AV} {args : List AV} {H : Hp} {R1 R : Res → Hp → Prop} (h : Tri P fv args H R1)
  (hR : ∀ r H', R1 r H' → R r H' ∨ ∃ v v' id st n f, r = .ret v ∧ ((H' id = some (.box st n f) ∧ FrzX (Lb id st n f) v v') ∨ (H' id = some (.row st n f) ∧ FrzX (Lr id st n f) v v')) ∧ R (.ret v') (H'.del id)) : Tri P fv args H R := by
 intro S vf vs hH hvf ha
 obtain ⟨nx, h1, h2⟩ := h S vf vs hH hvf ha
 have ho : ∀ e w, Out S R1 e w → Out S R e w := by
  rintro e w ⟨S', r, H', hw, hle, hH', hres, hr⟩
  rcases hR r H' hr with hr | ⟨v, v', id, st, n, f, rfl, hob, hr⟩
  ·exact ⟨S', r, H', hw, hle, hH', hres, hr⟩
  ·cases e with
   | returned cv =>
     rcases hob with ⟨hob, hf⟩ | ⟨hob, hf⟩
     ·obtain ⟨S2, hw2, hle2, hH2, hc⟩ := frz_stepB hH' hob
      exact ⟨S2, .ret v', _, hw2.trans hw, hle.trans hle2, hH2, hf.conv hle2 (fun x y hxy v hv => by obtain ⟨i, j, rfl, rfl⟩ := hxy; exact hc _ _ _ hv) cv hres, hr⟩
     ·obtain ⟨S2, hw2, hle2, hH2, hc⟩ := frz_step hH' hob
      exact ⟨S2, .ret v', _, hw2.trans hw, hle.trans hle2, hH2, hf.conv hle2 (fun x y hxy v hv => by obtain ⟨rfl, g, hg, rfl⟩ := hxy; exact AV.Le.rsl hg _ _ (hc v hv)) cv hres, hr⟩
   | _ => exact hres.elim
 refine ⟨nx, h1, ?_⟩
 cases nx <;> simp only [NextOk] at h2 ⊢
 ·exact Calls.mono h2 ho
 ·exact h2.mono ho
end Go.V
end
section
set_option linter.unusedVariables false
set_option linter.unusedSimpArgs false
namespace Go.V
set_option linter.unusedSectionVars false
variable [Inhabited GivT]
theorem HSub_del {A B : Hp} {i : Nat} (h : B i = none) (k : Go.V.HSub A B) : Go.V.HSub (A.del i) B := by
 intro j o hj
 have e : j ≠ i := fun e => by rw [e, h] at hj; cases hj
 obtain ⟨o', h1, h2⟩ := k j o hj
 exact ⟨o', by rw [Hp.del_ne _ e]; exact h1, h2⟩
end Go.V
end
section
set_option linter.unusedVariables false
set_option linter.unusedSimpArgs false
namespace Go.V
set_option linter.unusedSectionVars false
variable [Inhabited GivT]
theorem Ent.step {s : Fr} {ds : List AD} {H : Hp} {K : Fr → List AD → Hp → Prop} (h : Ent s ds H fun s ds H => Ent s ds H K) : Ent s ds H K := Ent.bind h fun _ _ _ h => h
theorem box_leA {st n : Nat} {f g : Nat → List AV} (hl : ∀ i, i < n → (g i).length = (f i).length) (h : ∀ i, i < n → ∀ j, j < st → AV.Le ((f i).getD j .any) ((g i).getD j .any)) : Obj.Le (.box st n f) (.box st n g) := by
 refine ⟨rfl, fun S i k => ?_⟩
 obtain ⟨b, c, e, h1, h2, h3, h4⟩ := k
 exact ⟨b, c, e, h1, h2, h3, h4.1, fun i hi => (hl i hi).trans (h4.2.1 i hi), fun i j hi hj => h i hi j hj _ _ (h4.2.2 i j hi hj)⟩
theorem fn_ent {P : Program} {fn : Func} {R : Res → Hp → Prop} {s : Fr} {ds : List AD} {H : Hp} (h : Ent s ds H fun s ds H => FnPost P fn R .ret s ds H) : FnPost P fn R .ret s ds H := Ent.step h
end Go.V
end
section
set_option linter.unusedVariables false
namespace Go.V
set_option linter.unusedSectionVars false
variable [Inhabited GivT]
theorem Tri.args {P : Program} {fv : AV} {args args' : List AV} {H : Hp} {R : Res → Hp → Prop} (t : Tri P fv args' H R) (hl : args'.length = args.length) (h : ∀ k, k < args.length → AV.Le (args.getD k .any) (args'.getD k .any)) : Tri P fv args H R :=
 fun S vf vs hH hf ha => t S vf vs hH hf ⟨by rw [ha.1, hl], fun k hk => h k (by omega) S _ (ha.2 k (by omega))⟩
end Go.V
end
section
set_option linter.unusedVariables false
namespace Go.V
set_option linter.unusedSectionVars false
variable [Inhabited GivT]
/-- l is an order of all operations that are not in 'done', each behind what B puts ahead of it. -/
structure TopoB (ops : Array Oper) (B : Nat → Nat → Bool) (done : Nat → Prop) (l : List Nat) : Prop where
 lt : ∀ i ∈ l, i < ops.size
 nodup : l.Nodup
 apart : ∀ i ∈ l, ¬ done i
 all : ∀ i, i < ops.size → done i ∨ i ∈ l
 edges : ∀ l1 i l2, l = l1 ++ i :: l2 → ∀ k, B i k = true → done k ∨ k ∈ l1
theorem TopoB.tail {ops : Array Oper} {B : Nat → Nat → Bool} {done : Nat → Prop} {i : Nat} {l : List Nat} (h : TopoB ops B done (i :: l)) : TopoB ops B (fun j => done j ∨ j = i) l where
 lt := fun j hj => h.lt j (by simp [hj])
 nodup := (List.nodup_cons.1 h.nodup).2
 apart := fun j hj hd => by
  rcases hd with hd | rfl
  ·exact h.apart j (by simp [hj]) hd
  ·exact (List.nodup_cons.1 h.nodup).1 hj
 all := fun j hj => by
  rcases h.all j hj with hd | hm
  ·exact .inl (.inl hd)
  ·rcases List.mem_cons.1 hm with rfl | hm
   ·exact .inl (.inr rfl)
   ·exact .inr hm
 edges := fun l1 j l2 hl k hb => by
  rcases h.edges (i :: l1) j l2 (by rw [hl]; rfl) k hb with hd | hm
  ·exact .inl (.inl hd)
  ·rcases List.mem_cons.1 hm with hm | hm
   ·exact .inl (.inr hm)
   ·exact .inr hm
theorem TopoB.head {ops : Array Oper} {B : Nat → Nat → Bool} {done : Nat → Prop} {i k : Nat} {l : List Nat} (h : TopoB ops B done (i :: l)) (hb : B i k = true) : done k := by
 rcases h.edges [] i l rfl k hb with hd | hm
 ·exact hd
 ·simp at hm

structure Plan3 (ops : Array Oper) (B : Nat → Nat → Bool) (sg : Nat → Nat) (stages : List Stg) (last : List Nat) : Prop where
 ssa : ∀ i k, i < ops.size → k < ops.size → ∀ d, (opAt ops.toList k).dst = some d → (d ∈ readsOf ops.toList (opAt ops.toList i) → B i k = true ∨ (B k i = true ∧ sg k % 2 = 1)) ∧ (k ≠ i → (opAt ops.toList i).dst ≠ some d)
 st : ∀ j st kp e, stages[j]? = some (st, kp, e) → st = (List.range ops.size).filter (fun i => sg i == 2 * j) ∧ e < ops.size ∧ (∀ i, i < ops.size → (sg i = 2 * j + 1 ↔ i = e)) ∧
  (∀ i, i < ops.size → 2 * j + 2 ≤ sg i → B i e = true) ∧
  (∀ i, i < ops.size → sg i % 2 = 0 → sg i ≤ 2 * j → B e i = true ∨ heapFree (opAt ops.toList i).op = true ∨ i ∈ kp)
 last : last = (List.range ops.size).filter (fun i => sg i == 2 * stages.length)
 le : ∀ i, i < ops.size → sg i ≤ 2 * stages.length
 ord : ∀ i k, i < ops.size → k < ops.size → B i k = true → sg k ≤ sg i
 lt : ∀ i k, i < ops.size → k < ops.size → B i k = true → sg i = sg k → sg i % 2 = 0 → k < i

/-- What the quiet operations of a stage give. -/
theorem stage_facts3 {r : Option Nat} {P : Program} {n : Nat} {ops : Array Oper} {B : Nat → Nat → Bool} {sg : Nat → Nat} {stages : List Stg} {last : List Nat} (pl : Plan3 ops B sg stages last) {H : Hp} {c : Nat} {s : Fr} {K : Fr → Prop}
  (hev : c % 2 = 0) (h : vcQ P n ops.toList H (pickO ops.toList ((List.range ops.size).filter fun i => sg i == c)) s K) :
  ∃ sF, K sF ∧ (∀ t, (∀ i, i < ops.size → sg i = c → (opAt ops.toList i).dst ≠ some t) → sF t = s t) ∧ ∀ i, i < ops.size → sg i = c → QF r P n ops.toList H sF (opAt ops.toList i) := by
 have hpw : ((List.range ops.size).filter fun i => sg i == c).Pairwise (· < ·) := List.Pairwise.filter _ List.pairwise_lt_range
 have hmem : ∀ k, k ∈ ((List.range ops.size).filter fun i => sg i == c) ↔ k < ops.size ∧ sg k = c := fun k => by simp
 obtain ⟨sF, k1, k2, k3⟩ := vcQ_facts2 (r := r) (readsOf ops.toList) (fun _ => rfl) _ s K (by
  intro i o ho k o' hik ho' d hd
  obtain ⟨x, hx, rfl⟩ := pickO_get ho
  obtain ⟨y, hy, rfl⟩ := pickO_get ho'
  obtain ⟨hx1, hx2⟩ := (hmem x).1 (List.mem_of_getElem? hx)
  obtain ⟨hy1, hy2⟩ := (hmem y).1 (List.mem_of_getElem? hy)
  have hle : x ≤ y ∧ (i < k → x < y) := by
   obtain ⟨hil, hxe⟩ := List.getElem?_eq_some_iff.1 hx
   obtain ⟨hkl, hye⟩ := List.getElem?_eq_some_iff.1 hy
   have hlt : i < k → x < y := fun hlt => by
    have := List.pairwise_iff_getElem.1 hpw i k hil hkl hlt
    rw [hxe, hye] at this; exact this
   refine ⟨?_, hlt⟩
   rcases Nat.lt_or_ge i k with hl | hl
   ·have := hlt hl; omega
   ·have e : i = k := by omega
    subst e
    rw [hx] at hy; cases hy; exact Nat.le_refl _
  obtain ⟨g1, g2⟩ := pl.ssa x y hx1 hy1 d hd
  refine ⟨fun hm => ?_, fun hlt => g2 (by have := hle.2 hlt; omega)⟩
  rcases g1 hm with g1 | ⟨_, g1⟩
  ·have := pl.lt x y hx1 hy1 g1 (by omega) (by omega)
   omega
  ·omega) h
 refine ⟨sF, k1, fun t ht => k2 t fun o ho => ?_, fun i hi hs => k3 _ ?_⟩
 ·obtain ⟨k, hk, rfl⟩ := pickO_mem ho
  obtain ⟨a, b⟩ := (hmem k).1 hk
  exact ht k a b
 ·exact List.mem_map.2 ⟨i, (hmem i).2 ⟨hi, hs⟩, rfl⟩

theorem draw_run3 {r : Option Nat} {P : Program} {mm : Option Tmp → Bool} {n : Nat} {ops : Array Oper} {B : Nat → Nat → Bool} {Q : Post} {sg : Nat → Nat} {stages : List Stg} {last : List Nat} (pl : Plan3 ops B sg stages last)
  (hr : r = none ∨ ops.toList.all (fun o => quietOk o.op) = true) :
  ∀ (l : List Nat) (done : Nat → Prop) (j : Nat) (s : Fr) (ds : List AD) (H : Hp) (S : St) (a : Act), TopoB ops B done l →
    (∀ i, i < ops.size → done i → sg i ≤ 2 * j) → (∀ i, i < ops.size → sg i % 2 = 1 → sg i < 2 * j → done i) →
    (∀ i, i < ops.size → sg i % 2 = 0 → sg i ≤ 2 * j → ¬ done i → QF r P n ops.toList H s (opAt ops.toList i)) →
    vcD' P mm n ops.toList (preOf stages j) (stages.drop j) last s ds H Q →
    a.tmps.size = n → HRel S H → DRel S ds a.defers → PFrame2 S ops sg j done s a → wpOpsIn (FW r) 0 P ops (Lift S n Q) l a S.w := by
 intro l
 induction l with
 | nil =>
   intro done j s ds H S a ht I1 I2 hfact hv hsz hH hD hP
   have hall : ∀ i, i < ops.size → done i := fun i hi => (ht.all i hi).resolve_right (by simp)
   have hj : stages.length ≤ j := by
    rcases Nat.lt_or_ge j stages.length with hlt | hge
    ·rcases hx : stages[j] with ⟨st, kp, e⟩
     have hs : stages[j]? = some (st, kp, e) := by rw [List.getElem?_eq_getElem hlt, hx]
     obtain ⟨_, g2, g3, _⟩ := pl.st j st kp e hs
     have := I1 e g2 (hall e g2)
     have := (g3 e g2).2 rfl
     omega
    ·exact hge
   have hF : FRel S s a := fun t => by
    rcases hP t with ⟨k, hk, _, hnd, _⟩ | h
    ·exact absurd (hall k hk) hnd
    ·exact h
   rw [List.drop_eq_nil_of_le hj] at hv
   exact ⟨S, .normal, s, ds, H, rfl, Le.refl S, hH, hF, hD, hsz, trivial, hv⟩
 | cons i l ih =>
   intro done j s ds H S a ht I1 I2 hfact hv hsz hH hD hP
   have hi := ht.lt i (by simp)
   have hni : ¬ done i := ht.apart i (by simp)
   have ho := opAt_get hi
   have hread : ∀ t, t ∈ readsOf ops.toList (opAt ops.toList i) → VRel S (s t) (a.tmps.getD t undef) := by
    intro t htr
    rcases hP t with ⟨k, hk, hkq, hnd, hd⟩ | h
    ·rcases (pl.ssa i k hi hk t hd).1 htr with g | ⟨_, g⟩
     ·exact absurd (ht.head g) hnd
     ·omega
    ·exact h
   have hops : ∀ x ∈ (opAt ops.toList i).op.operands.toList, VRel S (opA s x) (a.eval x) := by
    intro x hx
    cases x with
    | tmp t => exact hread t (mem_reads_op hx)
    | const v => exact .lit v
    | global g => exact .any _
    | func f => exact .func rfl rfl (fun k hk => absurd hk (by simp)) (fun k hk => absurd hk (by simp))
   by_cases hev : sg i % 2 = 0
   ·-- a quiet operation
    have hle : sg i ≤ 2 * j := by
     apply Classical.byContradiction
     intro hgt
     have := pl.le i hi
     have hlt : j < stages.length := by omega
     rcases hx : stages[j] with ⟨st, kp, e⟩
     have hs : stages[j]? = some (st, kp, e) := by rw [List.getElem?_eq_getElem hlt, hx]
     obtain ⟨_, g2, g3, g4, _⟩ := pl.st j st kp e hs
     have hde := ht.head (g4 i hi (by omega))
     have := I1 e g2 hde
     have := (g3 e g2).2 rfl
     omega
    obtain ⟨hd, v, hv', hg⟩ := (hfact i hi hev hle hni).fact
    have ih' : ∀ (S' : St) (cv : Value), Le S S' → HRel S' H → VRel S' v cv → wpOpsIn (FW r) 0 P ops (Lift S n Q) l (a.put (opAt ops.toList i).dst cv) S'.w := by
     intro S' cv hle' hH' hvr
     refine lift_wpOpsIn hle' l _ _ (ih (fun j => done j ∨ j = i) j s ds H S' _ ht.tail ?_ (fun x hx ho hl => .inl (I2 x hx ho hl)) ?_ hv ?_ hH' ?_ ?_)
     ·rintro x hx (hd | rfl)
      ·exact I1 x hx hd
      ·exact hle
     ·intro x hx he hl hnd
      exact hfact x hx he hl fun h => hnd (.inl h)
     ·have := put_size (a := a) (d := (opAt ops.toList i).dst) (cv := cv) (df := a.defers)
      exact this.trans hsz
     ·have := put_defers (a := a) (d := (opAt ops.toList i).dst) (cv := cv) (df := a.defers)
      have e : (a.put (opAt ops.toList i).dst cv).defers = a.defers := this
      rw [e]; exact hD.mono hle'
     ·intro t
      by_cases hdt : (opAt ops.toList i).dst = some t
      ·right
       rw [hv' t hdt]
       have ht' : t < a.tmps.size := by rw [hsz]; rw [hdt] at hd; exact hd
       rw [hdt]
       have := put_getD_same (a := a) (t := t) (cv := cv) (df := a.defers) ht'
       rw [show (a.put (some t) cv).tmps.getD t undef = cv from this]
       exact hvr
      ·rcases hP t with ⟨k, hk, hkq, hnd, hd'⟩ | h
       ·left
        refine ⟨k, hk, hkq, ?_, hd'⟩
        rintro (hx | rfl)
        ·exact hnd hx
        ·exact hdt hd'
       ·right
        rw [put_getD' hdt]
        exact h.mono hle'
    simp only [wpOpsIn, ho]
    generalize opAt ops.toList i = o at *
    cases hgd : o.guard with
    | none =>
      rw [hgd] at hg
      simp only [Region.wanted, hgd, if_true]
      exact hg S a _ _ hH hops ih'
    | some jw =>
      obtain ⟨jj, w⟩ := jw
      rw [hgd] at hg
      obtain ⟨b, v0, hb, rfl, hex⟩ := hg
      have hwant : Region.wanted o (yielded ops a.tmps) = b := wanted_rel hgd (fun q d hq hd' => hread d (mem_reads_guard hgd hq hd')) hb
      rw [hwant]
      cases hwb : b with
      | false =>
        simp only [Bool.false_eq_true, if_false]
        exact ⟨fun _ _ => trivial, ih' S undef (Le.refl S) hH (.under (fun x => by rw [hwb] at x; cases x) fun _ => rfl)⟩
      | true =>
        simp only [if_true]
        exact hex hwb S a _ _ hH hops fun S' cv hle hH' hvr => ih' S' cv hle hH' (.under (fun _ => hvr) fun x => by rw [hwb] at x; cases x)
   ·-- an effect
    have hlow : 2 * j < sg i := by
     apply Classical.byContradiction
     intro h
     exact hni (I2 i hi (by omega) (by omega))
    have hlt : j < stages.length := by have := pl.le i hi; omega
    rcases hx : stages[j] with ⟨st, kp, e⟩
    have hs : stages[j]? = some (st, kp, e) := by rw [List.getElem?_eq_getElem hlt, hx]
    obtain ⟨_, g2, g3, g4, g5⟩ := pl.st j st kp e hs
    have hsi : sg i = 2 * j + 1 := by
     apply Classical.byContradiction
     intro h
     have hde := ht.head (g4 i hi (by omega))
     have := I1 e g2 hde
     have := (g3 e g2).2 rfl
     omega
    have hei : i = e := (g3 i hi).1 hsi
    subst hei
    have hdrop : stages.drop j = (st, kp, i) :: stages.drop (j + 1) := by
     rw [List.drop_eq_getElem_cons hlt, hx]
    rw [hdrop] at hv
    obtain ⟨hd, hgn, heff⟩ := hv
    have hq : r = none ∨ ∀ c, (opAt ops.toList i).op ≠ .defer c := hr.imp (fun x => x) fun hall c e => by
     have hm : opAt ops.toList i ∈ ops.toList := List.mem_of_getElem? (i := i) (by simpa using ho)
     have := List.all_eq_true.1 hall _ hm
     rw [e] at this; cases this
    have hnext : hdS (stages.drop (j + 1)) last = (List.range ops.size).filter fun x => sg x == 2 * (j + 1) := by
     rcases Nat.lt_or_ge (j + 1) stages.length with h1 | h1
     ·rcases hx' : stages[j + 1] with ⟨st', kp', e'⟩
      have hs' : stages[j + 1]? = some (st', kp', e') := by rw [List.getElem?_eq_getElem h1, hx']
      rw [List.drop_eq_getElem_cons h1, hx']
      exact (pl.st (j + 1) st' kp' e' hs').1
     ·rw [List.drop_eq_nil_of_le h1]
      have : j + 1 = stages.length := by omega
      rw [this]; exact pl.last
    simp only [wpOpsIn, ho]
    have hw : Region.wanted (opAt ops.toList i) (yielded ops a.tmps) = true := by simp [Region.wanted, hgn]
    rw [hw]
    simp only [if_true]
    refine effA_sound heff hq hH hops hD _ _ ?_ ?_
    ·rintro S' cv v ds' df H' hle hH' hv' hD' ⟨hkp, hk⟩
     rw [vcD_eq, hnext, ← preOf_succ hs] at hk
     obtain ⟨sF, k1, k2, k3⟩ := stage_facts3 (r := r) pl (by omega) hk
     have hkf := vcRs_fact (r := r) _ hkp
     refine lift_wpOpsIn hle l _ _ (ih (fun x => done x ∨ x = i) (j + 1) sF ds' H' S' _ ht.tail ?_ ?_ ?_ k1 (by rw [put_size]; exact hsz) hH' (by rw [put_defers]; exact hD') ?_)
     ·rintro x hx (hd | rfl)
      ·have := I1 x hx hd; omega
      ·omega
     ·intro x hx ho hl
      by_cases h : sg x < 2 * j
      ·exact .inl (I2 x hx ho h)
      ·exact .inr ((g3 x hx).1 (by omega))
     ·intro x hx he hl hnd
      by_cases h : sg x = 2 * (j + 1)
      ·exact k3 x hx h
      ·have hxl : sg x ≤ 2 * j := by omega
       have hnx : ¬ done x := fun h => hnd (.inl h)
       have base : QF r P n ops.toList H' s (opAt ops.toList x) := by
        rcases g5 x hx he hxl with hb | hf | hm
        ·exact absurd (ht.head hb) hnx
        ·exact (hfact x hx he hxl hnx).move hf H'
        ·exact hkf _ (List.mem_map.2 ⟨x, hm, rfl⟩)
       have hpi : ∀ t, (opAt ops.toList i).dst ≠ some t → put s (opAt ops.toList i).dst v t = s t := fun t h => by
        cases hdd : (opAt ops.toList i).dst with
        | none => rfl
        | some d => simp only [put]; rw [if_neg]; intro e; exact h (by rw [hdd, e])
       refine base.congr (fun t htr => ?_) (fun d hd => ?_)
       ·rw [k2 t fun y hy hys hyd => ?_, hpi t fun hid => ?_]
        ·rcases (pl.ssa x i hx hi t hid).1 htr with g | ⟨g, _⟩
         ·have := pl.ord x i hx hi g; omega
         ·exact hnx (ht.head g)
        ·rcases (pl.ssa x y hx hy t hyd).1 htr with g | ⟨_, g⟩
         ·have := pl.ord x y hx hy g; omega
         ·omega
       ·rw [k2 d fun y hy hys hyd => ?_, hpi d fun hid => ?_]
        ·exact (pl.ssa x i hx hi d hid).2 (fun e => by rw [← e] at hxl; omega) hd
        ·exact (pl.ssa x y hx hy d hyd).2 (fun e => by rw [e] at hys; omega) hd
     ·intro t
      by_cases hex : ∃ k, k < ops.size ∧ (sg k % 2 = 0 ∧ sg k ≤ 2 * (j + 1)) ∧ ¬ (done k ∨ k = i) ∧ (opAt ops.toList k).dst = some t
      ·exact .inl hex
      ·right
       have hst : ∀ y, y < ops.size → sg y = 2 * (j + 1) → (opAt ops.toList y).dst ≠ some t := fun y hy hys hyd =>
        hex ⟨y, hy, ⟨by omega, by omega⟩, fun h => by
         rcases h with h | h
         ·have := I1 y hy h; omega
         ·rw [h] at hys; omega, hyd⟩
       rw [k2 t hst]
       by_cases hdt : (opAt ops.toList i).dst = some t
       ·rw [hdt]
        have ht' : t < a.tmps.size := by rw [hsz]; rw [hdt] at hd; exact hd
        rw [put_getD_same ht']
        simp only [put, if_true]
        exact hv'
       ·rw [put_getD hdt]
        have : put s (opAt ops.toList i).dst v t = s t := by
         cases hdd : (opAt ops.toList i).dst with
         | none => rfl
         | some d => simp only [put]; rw [if_neg]; intro e; exact hdt (by rw [hdd, e])
        rw [this]
        rcases hP t with ⟨k, hk, hkq, hnd, hd'⟩ | h
        ·exact absurd ⟨k, hk, ⟨hkq.1, by omega⟩, fun h => h.elim hnd fun e => hdt (by rw [← e]; exact hd'), hd'⟩ hex
        ·exact h.mono hle
    ·intro S' cv v H' hle hH' hv' hk
     refine ⟨S', .pan v, wipe (pickO ops.toList (preOf stages j ++ st)) s, ds, H', rfl, hle, hH', fun t => ?_, hD.mono hle, hsz, ⟨cv, rfl, hv'⟩, hk⟩
     simp only [wipe]
     split
     ·exact .any _
     ·rename_i hno
      rcases hP t with ⟨k, hk, hkq, hnd, hd'⟩ | h
      ·exfalso
       apply hno
       rw [List.any_eq_true]
       refine ⟨opAt ops.toList k, List.mem_map.2 ⟨k, ?_, rfl⟩, by rw [hd']; simp⟩
       rw [show st = (st, kp, i).1 from rfl, ← preOf_succ hs]
       obtain ⟨q, hq⟩ : ∃ q, sg k = 2 * q := ⟨sg k / 2, by omega⟩
       have hql : q < stages.length := by omega
       rcases hxq : stages[q] with ⟨st', kp', e'⟩
       have hsq : stages[q]? = some (st', kp', e') := by rw [List.getElem?_eq_getElem hql, hxq]
       have hst' := (pl.st q st' kp' e' hsq).1
       simp only [preOf, List.mem_flatMap]
       refine ⟨(st', kp', e'), List.mem_of_getElem? (i := q) (by rw [List.getElem?_take_of_lt (by omega)]; exact hsq), ?_⟩
       show k ∈ st'
       rw [hst', List.mem_filter, List.mem_range]
       exact ⟨hk, by simp [hq]⟩
      ·exact h.mono hle


def ordersOf (all : List Oper) : Nat → List Nat → List (List Nat)
 | 0, _ => [[]]
 | n + 1, rem => rem.flatMap fun e => if rem.any (fun k => bitM all e k) = true then [] else (ordersOf all n (rem.filter fun k => k != e)).map (e :: ·)
theorem ordersOf_mem (all : List Oper) : ∀ (n : Nat) (rem m : List Nat), m.length = n → m.Nodup → (∀ x, x ∈ m ↔ x ∈ rem) → (∀ m1 i m2, m = m1 ++ i :: m2 → ∀ k, k ∈ m → bitM all i k = true → k ∈ m1) → m ∈ ordersOf all n rem := by
 intro n
 induction n with
 | zero =>
   intro rem m hl _ _ _
   have : m = [] := List.length_eq_zero_iff.1 hl
   subst this
   simp [ordersOf]
 | succ n ih =>
   intro rem m hl hn hm ho
   cases m with
   | nil => simp at hl
   | cons e m =>
     simp only [ordersOf, List.mem_flatMap]
     refine ⟨e, (hm e).1 (by simp), ?_⟩
     rw [if_neg]
     ·refine List.mem_map.2 ⟨m, ih _ m (by simpa using hl) (List.nodup_cons.1 hn).2 (fun x => ?_) (fun m1 i m2 h k hk hb => ?_), rfl⟩
      ·rw [List.mem_filter]
       constructor
       ·intro hx
        exact ⟨(hm x).1 (by simp [hx]), by simp only [bne_iff_ne]; rintro rfl; exact (List.nodup_cons.1 hn).1 hx⟩
       ·rintro ⟨h1, h2⟩
        rcases List.mem_cons.1 ((hm x).2 h1) with h | h
        ·simp [h] at h2
        ·exact h
      ·have := ho (e :: m1) i m2 (by rw [h]; rfl) k (by simp [hk]) hb
       rcases List.mem_cons.1 this with h3 | h3
       ·subst h3; exact absurd hk (List.nodup_cons.1 hn).1
       ·exact h3
     ·intro hany
      rw [List.any_eq_true] at hany
      obtain ⟨k, hk, hb⟩ := hany
      have := ho [] e m rfl k ((hm k).2 hk) hb
      simp at this
/-- What stands ahead of an operation, where the effects come in this order. -/
def bitE (all : List Oper) (E : List Nat) (i k : Nat) : Bool := bitM all i k || E.any fun eb => (i == eb || bitM all i eb) && (E.takeWhile fun x => x != eb).any fun ea => k == ea || bitM all ea k
theorem Topo.before {ops : Array Oper} {l : List Nat} (h : Topo ops (fun _ => False) l) {j i : Nat} (ha : Anc ops j i) : ∀ l1 l2, l = l1 ++ i :: l2 → j ∈ l1 := by
 induction ha with
 | edge ho he hb hj =>
   intro l1 l2 hl
   subst hj
   exact (h.edges l1 _ l2 hl _ ho _ he hb).resolve_left id
 | trans h1 h2 ih1 ih2 =>
   intro l1 l2 hl
   obtain ⟨a, b, rfl⟩ := List.append_of_mem (ih2 l1 l2 hl)
   have := ih1 a (b ++ _ :: l2) (by rw [hl, List.append_assoc]; rfl)
   exact List.mem_append_left _ this
theorem takeW_filter {p : Nat → Bool} {eb : Nat} : ∀ {a b : List Nat}, eb ∉ a → p eb = true → ((a ++ eb :: b).filter p).takeWhile (fun x => x != eb) = a.filter p
 | [], b, _, hp => by simp [hp]
 | x :: a, b, hn, hp => by
   have h1 : x ≠ eb := fun e => hn (by simp [e])
   have ih := takeW_filter (p := p) (eb := eb) (a := a) (b := b) (fun h => hn (by simp [h])) hp
   simp only [List.cons_append, List.filter_cons]
   split
   ·rw [List.takeWhile_cons, if_pos (by simp [h1]), ih]
   ·exact ih
theorem topoB_of {ops : Array Oper} {l : List Nat} (h : Topo ops (fun _ => False) l) (hb : ∀ i k, bitM ops.toList i k = true → Anc ops k i) (p : Nat → Bool) : TopoB ops (bitE ops.toList (l.filter p)) (fun _ => False) l := by
 refine ⟨h.lt, h.nodup, h.apart, h.all, fun l1 i l2 hl k hB => .inr ?_⟩
 simp only [bitE, Bool.or_eq_true, List.any_eq_true, Bool.and_eq_true, beq_iff_eq] at hB
 rcases hB with hB | ⟨eb, heb, h1, ea, hea, h2⟩
 ·exact h.before (hb _ _ hB) l1 l2 hl
 ·obtain ⟨hebl, hpe⟩ := List.mem_filter.1 heb
  -- eb stands at i or ahead of it
  have hsplit : ∃ q r, l = q ++ eb :: r ∧ ∀ x, x ∈ q → x ∈ l1 := by
   rcases h1 with h1 | h1
   ·subst h1; exact ⟨l1, l2, hl, fun _ hx => hx⟩
   ·obtain ⟨q, r, hq⟩ := List.append_of_mem (h.before (hb _ _ h1) l1 l2 hl)
    exact ⟨q, r ++ i :: l2, by rw [hl, hq, List.append_assoc]; rfl, fun x hx => by rw [hq]; exact List.mem_append_left _ hx⟩
  obtain ⟨q, r, hq, hql⟩ := hsplit
  have hne : eb ∉ q := by
   intro hm
   have hnd := h.nodup
   rw [hq] at hnd
   exact (List.nodup_append.1 hnd).2.2 eb hm eb (by simp) rfl
  rw [hq, takeW_filter hne hpe] at hea
  have heq := (List.mem_filter.1 hea).1
  rcases h2 with h2 | h2
  ·rw [h2]; exact hql _ heq
  ·obtain ⟨a, b, rfl⟩ := List.append_of_mem heq
   have := h.before (hb _ _ h2) a (b ++ eb :: r) (by rw [hq, List.append_assoc]; rfl)
   exact hql _ (List.mem_append_left _ this)

abbrev Pln := List Nat × List Stg × List Nat
def plan3Ok (ops : Array Oper) (E : List Nat) (sg : List Nat) (stages : List Stg) (last : List Nat) : Bool :=
 decide (stages.map (fun x => x.2.2) = E) &&
 ((List.range ops.size).all fun i => (List.range ops.size).all fun k => match (opAt ops.toList k).dst with
   | some d => (!(readsOf ops.toList (opAt ops.toList i)).contains d || bitE ops.toList E i k || (bitE ops.toList E k i && sg.getD k 0 % 2 == 1)) && (decide (k = i) || decide ((opAt ops.toList i).dst ≠ some d))
   | none => true) &&
 ((List.range stages.length).all fun j => match stages[j]? with
   | some (st, kp, e) => decide (st = (List.range ops.size).filter fun i => sg.getD i 0 == 2 * j) && decide (e < ops.size) &&
     ((List.range ops.size).all fun i => decide (sg.getD i 0 = 2 * j + 1) == decide (i = e)) &&
     ((List.range ops.size).all fun i => decide (sg.getD i 0 < 2 * j + 2) || bitE ops.toList E i e) &&
     ((List.range ops.size).all fun i => sg.getD i 0 % 2 == 1 || decide (2 * j < sg.getD i 0) || bitE ops.toList E e i || heapFree (opAt ops.toList i).op || kp.contains i)
   | none => true) &&
 decide (last = (List.range ops.size).filter fun i => sg.getD i 0 == 2 * stages.length) &&
 ((List.range ops.size).all fun i => decide (sg.getD i 0 ≤ 2 * stages.length)) &&
 ((List.range ops.size).all fun i => (List.range ops.size).all fun k => !bitE ops.toList E i k || (decide (sg.getD k 0 ≤ sg.getD i 0) && (decide (sg.getD i 0 ≠ sg.getD k 0) || decide (sg.getD i 0 % 2 ≠ 0) || decide (k < i))))

theorem plan3_of {ops : Array Oper} {E sg : List Nat} {stages : List Stg} {last : List Nat} (hb : ∀ i k, bitM ops.toList i k = true → Anc ops k i) (h : plan3Ok ops E sg stages last = true) :
  stages.map (fun x => x.2.2) = E ∧ Plan3 ops (bitE ops.toList E) (fun i => sg.getD i 0) stages last := by
 simp only [plan3Ok, Bool.and_eq_true, List.all_eq_true, List.mem_range] at h
 obtain ⟨⟨⟨⟨⟨h0, h3⟩, h4⟩, h5⟩, h6⟩, h7⟩ := h
 refine ⟨of_decide_eq_true h0, ?_, ?_, by simpa using h5, fun i hi => by simpa using h6 i hi, fun i k hi hk hbb => ?_, fun i k hi hk hbb hs he => ?_⟩
 ·intro i k hi hk d hd
  have := h3 i hi k hk
  rw [hd] at this
  simp only [Bool.and_eq_true, Bool.or_eq_true, Bool.not_eq_true', decide_eq_true_eq, beq_iff_eq] at this
  obtain ⟨g1, g2⟩ := this
  refine ⟨fun hm => ?_, fun hne => ?_⟩
  ·rcases g1 with (g1 | g1) | g1
   ·rw [List.contains_iff_mem.2 hm] at g1; cases g1
   ·exact .inl g1
   ·exact .inr ⟨g1.1, by simpa using g1.2⟩
  ·rcases g2 with g2 | g2
   ·exact absurd g2 hne
   ·exact g2
 ·intro j st kp e hj
  have hjl : j < stages.length := (List.getElem?_eq_some_iff.1 hj).1
  have := h4 j hjl
  rw [hj] at this
  simp only [Bool.and_eq_true, List.all_eq_true, List.mem_range, Bool.or_eq_true, decide_eq_true_eq, beq_iff_eq] at this
  obtain ⟨⟨⟨⟨g1, g2⟩, g3⟩, g4⟩, g5⟩ := this
  refine ⟨g1, g2, fun i hi => by have := g3 i hi; simpa using this, fun i hi hs => ?_, fun i hi he hs => ?_⟩
  ·rcases g4 i hi with hx | hx
   ·omega
   ·exact hx
  ·rcases g5 i hi with (((hx | hx) | hx) | hx) | hx
   ·omega
   ·omega
   ·exact .inl hx
   ·exact .inr (.inl hx)
   ·exact .inr (.inr (List.contains_iff_mem.1 hx))
 ·have := h7 i hi k hk
  simp only [Bool.or_eq_true, Bool.not_eq_true', Bool.and_eq_true, decide_eq_true_eq] at this
  rcases this with hx | hx
  ·rw [hbb] at hx; cases hx
  ·exact hx.1
 ·have := h7 i hi k hk
  simp only [Bool.or_eq_true, Bool.not_eq_true', Bool.and_eq_true, decide_eq_true_eq] at this
  rcases this with hx | ⟨_, (hx | hx) | hx⟩
  ·rw [hbb] at hx; cases hx
  ·exact absurd hs hx
  ·exact absurd he hx
  ·exact hx
theorem nodup_le {a b : List Nat} (ha : a.Nodup) (h : ∀ x, x ∈ a → x ∈ b) : a.length ≤ b.length := by
 induction a generalizing b with
 | nil => exact Nat.zero_le _
 | cons x a ih =>
   obtain ⟨h1, h2⟩ := List.nodup_cons.1 ha
   have hx : x ∈ b := h x (by simp)
   have := ih (b := b.erase x) h2 fun y hy => (List.mem_erase_of_ne (fun e => h1 (by rw [← e]; exact hy))).2 (h y (by simp [hy]))
   rw [List.length_erase_of_mem hx] at this
   have := List.length_pos_of_mem hx
   simp only [List.length_cons]
   omega
/-- A region whose order is open: a plan for each order of its effects. -/
def draw3Ok (P : Program) (ops : Array Oper) (effs : List Nat) (plans : List Pln) : Bool :=
 (P.follows .mixedOrders || !Region.departs ops) &&
 ((List.range ops.size).all fun k => match ops[k]? with
   | some o => o.after.toList.all fun e => !Region.binds .any e || decide (e.on < k)
   | none => true) &&
 effs.all (fun e => decide (e < ops.size)) && decide effs.Nodup &&
 (ordersOf ops.toList effs.length effs).all fun E => plans.any fun p => plan3Ok ops E p.1 p.2.1 p.2.2

theorem wps_draw3 {r : Option Nat} {P : Program} {mm : Option Tmp → Bool} {n id : Nat} {ops : Array Oper} {s : Fr} {ds : List AD} {H : Hp} {Q : Post} (effs : List Nat) (plans : List Pln)
  (hr : r = none ∨ ops.toList.all (fun o => quietOk o.op) = true) (hok : draw3Ok P ops effs plans = true) (h : ∀ p ∈ plans, vcD P mm n ops.toList [] p.2.1 p.2.2 s ds H Q) : WPS r P n (.region id ops true) s ds H Q := by
 simp only [draw3Ok, Bool.and_eq_true] at hok
 obtain ⟨⟨⟨⟨h1, h2⟩, h3⟩, h4⟩, h5⟩ := hok
 have hedge : ∀ k o e, ops[k]? = some o → e ∈ o.after → Region.binds .any e = true → e.on < k := by
  intro k o e ho he hb
  have hk : k < ops.size := (Array.getElem?_eq_some_iff.1 ho).1
  have := List.all_eq_true.1 h2 k (List.mem_range.2 hk)
  rw [ho] at this
  simp only [List.all_eq_true, Bool.or_eq_true, Bool.not_eq_true', decide_eq_true_eq] at this
  rcases this e (by simpa using he) with hx | hx
  ·rw [hb] at hx; cases hx
  ·exact hx
 have hanc : ∀ i k, bitM ops.toList i k = true → Anc ops k i := fun q j hq =>
  masks_spec ops.toList [] (fun q h1 h2 => by simp) (fun q hq => absurd hq (by simp)) q j hq
 intro S a hn hH hF hD
 refine wpIn_region_draw fun t => ?_
 have hsch : Region.schedule (P.follows .mixedOrders) ops t = Region.linearise .any ops t := by
  unfold Region.schedule
  rw [if_pos h1]
 rw [hsch]
 have htopo := linearise_topo hedge t
 generalize Region.linearise .any ops t = l at htopo ⊢
 have hE : l.filter (effs.contains ·) ∈ ordersOf ops.toList effs.length effs := by
  have hmem : ∀ x, x ∈ l.filter (effs.contains ·) ↔ x ∈ effs := fun x => by
   rw [List.mem_filter]
   constructor
   ·rintro ⟨_, hx⟩; exact List.contains_iff_mem.1 hx
   ·intro hx
    have := of_decide_eq_true (List.all_eq_true.1 h3 x hx)
    exact ⟨(htopo.all x this).resolve_left (fun h => h), List.contains_iff_mem.2 hx⟩
  have hnd : (l.filter (effs.contains ·)).Nodup := List.Pairwise.filter _ htopo.nodup
  refine ordersOf_mem _ _ _ _ ?_ hnd hmem fun m1 i m2 hm k hk hb => ?_
  ·have hnd2 := of_decide_eq_true h4
   exact Nat.le_antisymm (nodup_le hnd fun x hx => (hmem x).1 hx) (nodup_le hnd2 fun x hx => (hmem x).2 hx)
  ·have hil : i ∈ l.filter (effs.contains ·) := by rw [hm]; simp
   obtain ⟨hil, hpi⟩ := List.mem_filter.1 hil
   obtain ⟨a', b', hl⟩ := List.append_of_mem hil
   have hka := htopo.before (hanc _ _ hb) a' b' hl
   have hni : i ∉ a' := by
    intro hx
    have := htopo.nodup
    rw [hl] at this
    exact (List.nodup_append.1 this).2.2 i hx i (by simp) rfl
   have hnm : i ∉ m1 := by
    intro hx
    rw [hm] at hnd
    exact (List.nodup_append.1 hnd).2.2 i hx i (by simp) rfl
   have e1 := takeW_filter (p := (effs.contains ·)) (a := a') (b := b') hni hpi
   rw [← hl, hm] at e1
   have e2 := takeW_filter (p := fun _ => true) (a := m1) (b := m2) hnm rfl
   rw [List.filter_eq_self.2 (fun _ _ => rfl), List.filter_eq_self.2 (fun _ _ => rfl)] at e2
   rw [e2] at e1
   rw [e1]
   exact List.mem_filter.2 ⟨hka, (List.mem_filter.1 hk).2⟩
 obtain ⟨⟨sg, stages, last⟩, hp, hpk⟩ := List.any_eq_true.1 (List.all_eq_true.1 h5 _ hE)
 have hv := h _ hp
 have hpk : plan3Ok ops _ sg stages last = true := hpk
 obtain ⟨_, pl⟩ := plan3_of hanc hpk
 have hB := topoB_of htopo hanc (effs.contains ·)
 simp only [] at hv
 rw [vcD_eq] at hv
 have hst : hdS stages last = (List.range ops.size).filter fun x => sg.getD x 0 == 2 * 0 := by
  cases stages with
  | nil => exact pl.last
  | cons x r => obtain ⟨st, kp, e⟩ := x; exact (pl.st 0 st kp e rfl).1
 rw [hst] at hv
 obtain ⟨sF, k1, k2, k3⟩ := stage_facts3 (r := r) pl (by omega) hv
 have hle : Le S { S with w := { S.w with drawn := S.w.drawn + 1 } } :=
  ⟨rfl, rfl, rfl, Nat.le_refl _, fun _ h => h, fun _ _ => rfl, fun _ _ _ => rfl, Nat.le_refl _, fun _ c _ _ h => ⟨c, h, rfl⟩⟩
 have hH' : HRel { S with w := { S.w with drawn := S.w.drawn + 1 } } H :=
  ⟨hH.fresh, hH.immlt, fun i o ho => (hH.obj i o ho).keep hle (fun _ => rfl) (fun _ _ => rfl) (fun _ _ _ h => h), hH.inj, fun p hp => (hH.giv p hp).mono hle⟩
 refine lift_wpOpsIn hle _ _ _ (draw_run3 (mm := mm) (sg := fun i => sg.getD i 0) pl hr l (fun _ => False) 0 sF ds H _ a hB (fun _ _ h => h.elim) (fun _ _ _ h => by omega)
  (fun i hi he hl _ => k3 i hi (by omega)) k1 hn hH' (hD.mono hle) ?_)
 intro t
 by_cases hx : ∃ k, k < ops.size ∧ (sg.getD k 0 % 2 = 0 ∧ sg.getD k 0 ≤ 2 * 0) ∧ (opAt ops.toList k).dst = some t
 ·obtain ⟨k, a1, a2, a3⟩ := hx
  exact .inl ⟨k, a1, a2, fun h => h, a3⟩
 ·right
  rw [k2 t (fun i hi h0 e => hx ⟨i, hi, ⟨by omega, by omega⟩, e⟩)]
  exact (hF t).mono hle

section
variable {r : Option Nat} {P : Program} {m : Option Tmp → Bool} {n : Nat} {k : List It} {s : Fr} {ds : List AD} {H : Hp} {Q : Post}
theorem vs_draw3 {id : Nat} {l : List Oper} (effs : List Nat) (plans : List Pln) (hok : draw3Ok P l.toArray effs plans = true) (h : ∀ p ∈ plans, VS none P m n (expand l [] p.2.2 p.2.1 k) s ds H Q) :
  VS none P m n (.code (.region id l.toArray true) :: k) s ds H Q := by
 show WPS none P n (.region id l.toArray true) s ds H (TK none P m n k Q)
 refine wps_draw3 (mm := m) effs plans (.inl rfl) hok fun p hp => ?_
 rw [List.toList_toArray, vcD_expand]; exact h p hp
end
end Go.V
end
section
set_option linter.unusedVariables false
namespace Go.V
set_option linter.unusedSectionVars false
variable [Inhabited GivT]
def CutS {σ : Type} (inv : σ → Prop) (fr : σ → List (Nat × AV)) (hp : σ → Hp) (ds0 : List AD) : Post := fun e s ds H => match e with
 | .normal => Ent s ds H fun s2 ds2 H2 => ∃ x, inv x ∧ s2 = Fr.of (fr x) ∧ ds2 = ds0 ∧ H2 = hp x
 | _ => False
section
variable {P : Program} {m : Option Tmp → Bool} {n : Nat} {k : List It} {s : Fr} {ds : List AD} {H : Hp} {Q : Post}
end
end Go.V
end
section
set_option linter.unusedVariables false
namespace Go.V
set_option linter.unusedSectionVars false
variable [Inhabited GivT]
def CutG {σ : Type} (inv : σ → Prop) (fr : σ → List (Nat × AV)) (hp : σ → Hp) (dsf : σ → List AD) (Q : Post) : Post := fun e s ds H => match e with
 | .normal => Ent s ds H fun s2 ds2 H2 => ∃ x, inv x ∧ s2 = Fr.of (fr x) ∧ ds2 = dsf x ∧ H2 = hp x
 | e => Q e s ds H
section
variable {r : Option Nat} {P : Program} {m : Option Tmp → Bool} {n : Nat} {s : Fr} {ds : List AD} {H : Hp} {Q : Post} {σ : Type} {inv : σ → Prop} {fr : σ → List (Nat × AV)} {hp : σ → Hp} {dsf : σ → List AD}
theorem CutG_ret : CutG inv fr hp dsf Q .ret s ds H = Q .ret s ds H := rfl
theorem cutG_of (x : σ) (h : inv x) (hs : Slots s (fr x)) (hd : ds = dsf x) (hH : HSub H (hp x)) : CutG inv fr hp dsf Q .normal s ds H := by
 subst hd
 exact Ent.of (fr x) hs hH ⟨x, h, rfl, rfl, rfl⟩
end
section
variable {r : Option Nat} {P : Program} {m : Option Tmp → Bool} {n : Nat} {s : Fr} {ds : List AD} {H : Hp} {Q : Post} {σ : Type} (inv : σ → Prop) (fr : σ → List (Nat × AV)) (hp : σ → Hp) (dsf : σ → List AD)
theorem wps_cutG {a b : Code} (h1 : VS r P m n [.code a] s ds H (CutG inv fr hp dsf Q)) (h2 : ∀ x, inv x → WPS r P n b (Fr.of (fr x)) (dsf x) (hp x) Q) : WPS r P n (.seq a b) s ds H Q := by
 refine wps_seq ((vcC_sound a h1).mono fun x s' ds' H' hq => ?_)
 cases x with
 | normal =>
   have hq : Ent s' ds' H' fun s2 ds2 H2 => ∃ x, inv x ∧ s2 = Fr.of (fr x) ∧ ds2 = dsf x ∧ H2 = hp x := hq
   refine wps_ent (hq.mono fun s2 ds2 H2 hx => ?_)
   obtain ⟨x, hi, rfl, rfl, rfl⟩ := hx
   exact h2 x hi
 | ret => exact hq
 | pan v => exact hq
 | exit i => exact hq
theorem wps_cutG2 {a b c : Code} (h1 : VS r P m n [.code a, .code b] s ds H (CutG inv fr hp dsf Q)) (h2 : ∀ x, inv x → WPS r P n c (Fr.of (fr x)) (dsf x) (hp x) Q) : WPS r P n (.seq a (.seq b c)) s ds H Q := by
 refine wps_seq ((vcC_sound a h1).mono fun x s' ds' H' hq => ?_)
 cases x with
 | normal => exact wps_cutG inv fr hp dsf hq h2
 | ret => exact hq
 | pan v => exact hq
 | exit i => exact hq
theorem wps_cutG3 {a b c d : Code} (h1 : VS r P m n [.code a, .code b, .code c] s ds H (CutG inv fr hp dsf Q)) (h2 : ∀ x, inv x → WPS r P n d (Fr.of (fr x)) (dsf x) (hp x) Q) : WPS r P n (.seq a (.seq b (.seq c d))) s ds H Q := by
 refine wps_seq ((vcC_sound a h1).mono fun x s' ds' H' hq => ?_)
 cases x with
 | normal => exact wps_cutG2 inv fr hp dsf hq h2
 | ret => exact hq
 | pan v => exact hq
 | exit i => exact hq
end
theorem tri_wm {P : Program} {H : Hp} {f : FuncId} {fn : Func} {c : Code} {caps args : List AV} {R : Res → Hp → Prop}
  (hf : P.funcs[f]? = some fn) (hname : (fn.name == "runtime.NumGoroutine") = false)
  (hb : fn.body = some c) (hlen : (args ++ caps).length ≤ fn.ntmps) (hbody : WPS none P fn.ntmps c (argFr (args ++ caps)) [] H (FnPostM P fn R)) : Tri P (.func (.func f) [] caps) args H R := by
 intro S vf vs hH hvf ha
 cases hvf with
 | @func _ _ _ ws us hn hm h h' =>
   have hws : ws = #[] := by simpa using hn
   subst hws
   refine ⟨.enter f (vs.toArray ++ us), ?_, ?_⟩
   ·have hcf : (callFunc f (vs.toArray ++ us)).run P S.w = .ok (.enter f (vs.toArray ++ us)) S.w := by
     simp only [callFunc, Sem.run_bind, run_program, Result.andThen_ok, hf, hname, hb]
     simp
    simp only [Deferred.ofValue, Sem.run_bind, Sem.run_pure, Result.andThen_ok, invoke]
    have e : (#[] : Array Value) ++ vs.toArray = vs.toArray := by simp
    rw [e]
    exact hcf
   ·refine body_callsM hf hb hlen hbody hH ?_
    refine ⟨by simp [ha.1, hm], fun k hk => ?_⟩
    simp only [List.getD, Array.toList_append]
    by_cases hk' : k < args.length
    ·rw [List.getElem?_append_left hk', List.getElem?_append_left (by rw [ha.1]; exact hk')]
     exact ha.2 k hk'
    ·have e1 := ha.1
     simp only [List.length_append] at hk
     rw [List.getElem?_append_right (by omega), List.getElem?_append_right (by omega), e1]
     have := h' (k - args.length) (by omega)
     simpa [List.getD, Array.getD_eq_getD_getElem?] using this
end Go.V
end
section
set_option linter.unusedVariables false
namespace Go.V
set_option linter.unusedSectionVars false
variable [Inhabited GivT]
section
variable {r : Option Nat} {P : Program} {m : Option Tmp → Bool} {n : Nat} {s : Fr} {ds : List AD} {H : Hp} {Q : Post} {σ : Type} (inv : σ → Prop) (fr : σ → List (Nat × AV)) (hp : σ → Hp) (dsf : σ → List AD)
theorem wps_cutG4 {a0 a1 a2 a3 b : Code} (h1 : VS r P m n [.code a0, .code a1, .code a2, .code a3] s ds H (CutG inv fr hp dsf Q)) (h2 : ∀ x, inv x → WPS r P n b (Fr.of (fr x)) (dsf x) (hp x) Q) : WPS r P n (.seq a0 (.seq a1 (.seq a2 (.seq a3 b)))) s ds H Q := by
 refine wps_seq ((vcC_sound a0 h1).mono fun x s' ds' H' hq => ?_)
 cases x with
 | normal => exact wps_cutG3 inv fr hp dsf hq h2
 | ret => exact hq
 | pan v => exact hq
 | exit i => exact hq
theorem wps_cutG5 {a0 a1 a2 a3 a4 b : Code} (h1 : VS r P m n [.code a0, .code a1, .code a2, .code a3, .code a4] s ds H (CutG inv fr hp dsf Q)) (h2 : ∀ x, inv x → WPS r P n b (Fr.of (fr x)) (dsf x) (hp x) Q) : WPS r P n (.seq a0 (.seq a1 (.seq a2 (.seq a3 (.seq a4 b))))) s ds H Q := by
 refine wps_seq ((vcC_sound a0 h1).mono fun x s' ds' H' hq => ?_)
 cases x with
 | normal => exact wps_cutG4 inv fr hp dsf hq h2
 | ret => exact hq
 | pan v => exact hq
 | exit i => exact hq
theorem wps_cutG6 {a0 a1 a2 a3 a4 a5 b : Code} (h1 : VS r P m n [.code a0, .code a1, .code a2, .code a3, .code a4, .code a5] s ds H (CutG inv fr hp dsf Q)) (h2 : ∀ x, inv x → WPS r P n b (Fr.of (fr x)) (dsf x) (hp x) Q) : WPS r P n (.seq a0 (.seq a1 (.seq a2 (.seq a3 (.seq a4 (.seq a5 b)))))) s ds H Q := by
 refine wps_seq ((vcC_sound a0 h1).mono fun x s' ds' H' hq => ?_)
 cases x with
 | normal => exact wps_cutG5 inv fr hp dsf hq h2
 | ret => exact hq
 | pan v => exact hq
 | exit i => exact hq
theorem wps_cutG7 {a0 a1 a2 a3 a4 a5 a6 b : Code} (h1 : VS r P m n [.code a0, .code a1, .code a2, .code a3, .code a4, .code a5, .code a6] s ds H (CutG inv fr hp dsf Q)) (h2 : ∀ x, inv x → WPS r P n b (Fr.of (fr x)) (dsf x) (hp x) Q) : WPS r P n (.seq a0 (.seq a1 (.seq a2 (.seq a3 (.seq a4 (.seq a5 (.seq a6 b))))))) s ds H Q := by
 refine wps_seq ((vcC_sound a0 h1).mono fun x s' ds' H' hq => ?_)
 cases x with
 | normal => exact wps_cutG6 inv fr hp dsf hq h2
 | ret => exact hq
 | pan v => exact hq
 | exit i => exact hq
theorem wps_cutG8 {a0 a1 a2 a3 a4 a5 a6 a7 b : Code} (h1 : VS r P m n [.code a0, .code a1, .code a2, .code a3, .code a4, .code a5, .code a6, .code a7] s ds H (CutG inv fr hp dsf Q)) (h2 : ∀ x, inv x → WPS r P n b (Fr.of (fr x)) (dsf x) (hp x) Q) : WPS r P n (.seq a0 (.seq a1 (.seq a2 (.seq a3 (.seq a4 (.seq a5 (.seq a6 (.seq a7 b)))))))) s ds H Q := by
 refine wps_seq ((vcC_sound a0 h1).mono fun x s' ds' H' hq => ?_)
 cases x with
 | normal => exact wps_cutG7 inv fr hp dsf hq h2
 | ret => exact hq
 | pan v => exact hq
 | exit i => exact hq
end
/-- A cut, where more is to be said first. -/
theorem cutG_ent {σ : Type} {inv : σ → Prop} {fr : σ → List (Nat × AV)} {hp : σ → Hp} {dsf : σ → List AD} {Q : Post} {s : Fr} {ds : List AD} {H : Hp} (h : Ent s ds H fun s ds H => CutG inv fr hp dsf Q .normal s ds H) : CutG inv fr hp dsf Q .normal s ds H := Ent.bind h fun _ _ _ h => h
end Go.V
end
section
set_option linter.unusedVariables false
set_option linter.unusedSimpArgs false
namespace Go.V
set_option linter.unusedSectionVars false
variable [Inhabited GivT]
/-- The same value, with some leaves told otherwise, in rows too. -/
inductive FrzS (L : AV → AV → Prop) : AV → AV → Prop
 | same (x : AV) : FrzS L x x
 | leaf {x y : AV} (h : L x y) : FrzS L x y
 | agg {cs cs' : List AV} (hl : cs'.length = cs.length) (h : ∀ k, k < cs.length → FrzS L (cs.getD k .any) (cs'.getD k .any)) : FrzS L (.agg cs) (.agg cs')
 | rsl {n st : Nat} {f g : Nat → List AV} (hl : ∀ k, k < n → (f k).length = st → (g k).length = st) (h : ∀ k l, k < n → l < st → FrzS L ((f k).getD l .any) ((g k).getD l .any)) : FrzS L (.rsl n st f) (.rsl n st g)
theorem FrzS.conv {L : AV → AV → Prop} {S S2 : St} (hle : Le S S2) (hc : ∀ x y, L x y → ∀ v, VRel S x v → VRel S2 y v) {x y : AV} (hxy : FrzS L x y) : ∀ v, VRel S x v → VRel S2 y v := by
 induction hxy with
 | same x => intro v hv; exact hv.mono hle
 | leaf h => intro v hv; exact hc _ _ h v hv
 | agg hl h ih =>
   intro v hv
   cases hv with
   | agg hn hv => exact .agg (hn.trans hl.symm) fun k hk => ih k (by omega) _ (hv k (by omega))
 | @rsl n st f g hl h ih =>
   intro v hv
   cases hv with
   | rsl0 => exact .rsl0
   | rsl hi hb hsz hf hh hcap =>
     exact .rsl (hle.imm _ hi) ((hle.keep _ hi).trans hb) hsz (fun k hk => hl k hk (hf k hk)) (fun k l hk hl2 => ih k l hk hl2 _ (hh k l hk hl2)) hcap
/-- What slots hold, slot by slot. -/
inductive FrzL (L : AV → AV → Prop) : List (Nat × AV) → List (Nat × AV) → Prop
 | nil : FrzL L [] []
 | cons {t : Nat} {v v' : AV} {l l' : List (Nat × AV)} (h : FrzS L v v') (k : FrzL L l l') : FrzL L ((t, v) :: l) ((t, v') :: l')
theorem FrzL.refl {L : AV → AV → Prop} : ∀ l : List (Nat × AV), FrzL L l l
 | [] => .nil
 | (_, v) :: l => .cons (.same v) (FrzL.refl l)
theorem FrzL.fr {L : AV → AV → Prop} {l l' : List (Nat × AV)} (h : FrzL L l l') : ∀ t, FrzS L (Fr.of l t) (Fr.of l' t) := by
 intro t
 induction h with
 | nil => exact .same _
 | cons hv _ ih =>
   simp only [Fr.of]
   split
   ·exact hv
   ·exact ih
end Go.V
end
section
set_option linter.unusedVariables false
set_option linter.unusedSimpArgs false
namespace Go.V
set_option linter.unusedSectionVars false
variable [Inhabited GivT]
theorem wpSIn_rec {F : Fence} {n : Nat} {P : Program} {Q : Exit → Act → List Frame → World → Prop} {a : Act} {cs cs' : List Frame} {w : World} {id : Nat} {ops : Array Oper} {o : Oper} {rest : List Nat} {v : Value}
  (hro : F.round = none) (ho : ops[0]? = some o) (hl : List.range ops.size = 0 :: rest) (hw : Region.wanted o (yielded ops a.tmps) = true) (hx : (execOp a.eval o).run P w = .ok .recover w)
  (hab : ∀ f, o.about P w a.eval = some f → F.fn f) (hrec : recoverD cs = some (v, cs') ∨ (recoverD cs = none ∧ cs' = cs ∧ v = .nilIface))
  (h : wpOpsIn F n P ops (fun e a' w' => Q e a' cs' w') rest (a.put o.dst v) w) : (Code.region id ops false).wpSIn F n P Q a cs w := by
 intro b k hb hr hF hroom
 have hlen : cs'.length = cs.length := by
  rcases hrec with hrec | ⟨_, rfl, _⟩
  ·exact recoverD_length hrec
  ·rfl
 obtain ⟨e, a', w', hq, harr⟩ := wp_opsIn rest _ _ h b k cs' (hr.trans hro.symm) hF (hlen ▸ hroom)
 refine ⟨e, a', cs', w', hlen, hq, .of_steps (.head (fenced_calm hF hroom rfl) stepR_region (.one ?_ ?_)) harr⟩
 ·exact hl ▸ fenced_oper hF hroom ho hab
 rw [hl]
 have hg := stepGR_op (P := P) (b := b) (k := k) (cs := cs) (w := w) (rest := rest) ho hw
 rw [hr, Oper.semAt_none] at hg
 have hfin : ∀ v, (b.atR a (.inRegion ops (0 :: rest) :: k)).finish v = b.atR (a.put o.dst v) (.inRegion ops rest :: k) := by
  intro v; rw [Frame.finish_atR, ho]; rfl
 have hk : (b.atR a (.inRegion ops (0 :: rest) :: k)).kind = .deferred := hb
 have htr := tryRecover_deferred hk cs
 refine step_lone_go ?_
 rw [hg, ← hfin]
 simp only [Frame.atR, hr] at htr ⊢
 rcases hrec with hrec | ⟨hrec, rfl, rfl⟩ <;> simp [stepG.apply, hx, htr, hrec]

theorem wpOpsIn_mono {F : Fence} {n : Nat} {P : Program} {ops : Array Oper} {Q Q' : Exit → Act → World → Prop} (hm : ∀ e a w, Q e a w → Q' e a w) : ∀ (l : List Nat) (a : Act) (w : World), wpOpsIn F n P ops Q l a w → wpOpsIn F n P ops Q' l a w := by
 intro l
 induction l with
 | nil => intro a' w h; exact hm _ _ _ h
 | cons i l ih =>
   intro a' w h
   simp only [wpOpsIn] at h ⊢
   split
   ·rename_i e; simp only [e] at h; exact ih _ _ h
   ·rename_i o' e
    simp only [e] at h
    split
    ·rename_i hw
     rw [if_pos hw] at h
     refine ⟨h.1, ?_⟩
     have h2 := h.2
     generalize (o'.semAt F.round a'.eval).run P w = res at h2 ⊢
     cases res with
     | ok nx w' =>
       cases nx <;> simp only [Oper.uponIn] at h2 ⊢ <;> try exact ih _ _ h2
       ·exact ⟨h2.1, h2.2.mono fun e w he => by
         cases e with
         | returned v => exact ih _ _ he
         | panicked ch => exact hm _ _ _ he
         | outgrown => obtain ⟨a0, w0, hx⟩ := he; exact ⟨a0, w0, hm _ _ _ hx⟩⟩
       ·exact ⟨h2.1, h2.2.mono fun e w he => by
         cases e with
         | returned v => exact ih _ _ he
         | panicked ch => exact hm _ _ _ he
         | outgrown => obtain ⟨a0, w0, hx⟩ := he; exact ⟨a0, w0, hm _ _ _ hx⟩⟩
       ·exact ⟨h2.1, h2.2.mono fun v w he => ih _ _ he⟩
     | halt x w' => cases x <;> simp only [Oper.uponIn] at h2 ⊢ <;> first | exact hm _ _ _ h2 | exact h2
    ·rename_i hw; rw [if_neg hw] at h; exact ⟨h.1, ih _ _ h.2⟩

/-- A deferred function: it recovers, then one more operation. -/
theorem ansR {P : Program} {g : FuncId} {fn : Func} {id t1 : Nat} {Tr : TypeId} {p1 : String} {a1 : Array Edge} {o2 : Oper} {m : Option Tmp → Bool} (hf : P.funcs[g]? = some fn)
  (hb : fn.body = some (.region id #[⟨some t1, .call ⟨.builtin .recover, #[], #[]⟩, Tr, p1, a1, none⟩, o2] false))
  (hr : fn.results = #[]) {args : List AV} {H : Hp} {Q : Hp → Prop} {S : St} {vs : Array Value} {u u' : FrameMode} {rv : AV} {cv : Value} (hlen : args.length ≤ fn.ntmps)
  (hrec : ∀ (c₀ : Frame) (cs : List Frame), c₀.mode = u → recoverD (c₀ :: cs) = some (cv, { c₀ with mode := u' } :: cs) ∨ (recoverD (c₀ :: cs) = none ∧ u' = u ∧ cv = .nilIface))
  (hH : HRel S H) (ha : VRels S args vs.toList) (hrv : VRel S rv cv) (h1 : t1 < fn.ntmps)
  (hbody : vcOps P m fn.ntmps [⟨some t1, .call ⟨.builtin .recover, #[], #[]⟩, Tr, p1, a1, none⟩, o2] [o2] (put (argFr args) (some t1) rv) [] H (fun x s ds H' => (x = .normal ∨ x = .ret) ∧ ds = [] ∧ Q H')) :
  CallsDIn Fence.wide 0 P g vs u S.w fun e u2 w => (∃ v, e = .returned v) ∧ u2 = u' ∧ ∃ S' H', S'.w = w ∧ Le S S' ∧ HRel S' H' ∧ Q H' := by
 have hsz : vs.size = args.length := ha.size.1
 refine callsDIn_of_wpSIn hf hb trivial fun c₀ cs hu => ?_
 have hF0 := argFr_rel (n := fn.ntmps) ha
 generalize ha0 : ({ tmps := vs ++ Array.replicate (fn.ntmps - vs.size) undef, defers := [] } : Act) = a0 at hF0 ⊢
 have hn0 : a0.tmps.size = fn.ntmps := by rw [← ha0]; simp; omega
 have hd0 : a0.defers = [] := by rw [← ha0]
 refine wpSIn_rec (cs' := { c₀ with mode := u' } :: cs) (v := cv) (rest := [1]) rfl rfl rfl (by simp [Region.wanted]) (by simp [execOp, resolve, invoke, builtin]) (fun _ _ => trivial) ?_ ?_
 ·rcases hrec c₀ cs hu with h | ⟨h, rfl, h'⟩
  ·exact .inl h
  ·exact .inr ⟨h, by subst hu; rfl, h'⟩
 ·have h := vcOps_sound (r := none) (P := P) (m := m) (n := fn.ntmps) (ops := #[⟨some t1, .call ⟨.builtin .recover, #[], #[]⟩, Tr, p1, a1, none⟩, o2]) (.inl rfl) [o2] [1] _ [] H (by simp) rfl hbody S (a0.put (some t1) cv)
   (by simp [Act.put, hn0]) hH (FRel.put (n := fn.ntmps) (d := some t1) hF0 h1 hn0 hrv a0.defers) (by simp [Act.put, hd0]; exact .nil)
  refine wpOpsIn_mono ?_ _ _ _ h
  rintro e a w ⟨S', x, s, ds, H', rfl, hle, hH', hF, hD, hn, hx, hx2, hds, hq⟩
  subst hds
  have hdn := hD.nil_inv
  have hres : (results fn a.tmps).run P S'.w = .ok (.tuple #[]) S'.w := by
   rw [results_eq, hr]; simp
  have fin : a.defers = [] ∧ ∃ u'', { c₀ with mode := u' } :: cs = { c₀ with mode := u'' } :: cs ∧ ∃ v, (results fn a.tmps).run P S'.w = .ok v S'.w ∧ ((∃ v', Ending.returned v = Ending.returned v') ∧ u'' = u' ∧ ∃ S2 H2, S2.w = S'.w ∧ Le S S2 ∧ HRel S2 H2 ∧ Q H2) :=
   ⟨hdn, u', rfl, _, hres, ⟨_, rfl⟩, rfl, S', H', rfl, hle, hH', hq⟩
  cases e with
  | normal => exact fin
  | ret => exact fin
  | exit i => rcases hx2 with rfl | rfl <;> simp [XRel] at hx
  | goto l => rcases hx2 with rfl | rfl <;> simp [XRel] at hx
  | outgrown => rcases hx2 with rfl | rfl <;> simp [XRel] at hx
  | panic ch => rcases hx2 with rfl | rfl <;> simp [XRel] at hx

end Go.V
end
section
set_option linter.unusedVariables false
set_option linter.unusedSimpArgs false
set_option maxHeartbeats 4000000
set_option maxRecDepth 100000
namespace Go.Proofs.Ytclkjifgipcamaa
open Go.V
instance : Inhabited GivT := ⟨⟨[]⟩⟩
abbrev Lk.cs (x : Lk) : List AV := [i64 x.ht, i64 x.sd, i64 x.mo]
def lkF (l : List Lk) : Nat → List AV := fun i => (l.getD i lk0).cs
theorem lkF_at (l : List Lk) (i : Nat) : lkF l i = [i64 (l.getD i lk0).ht, i64 (l.getD i lk0).sd, i64 (l.getD i lk0).mo] := rfl
abbrev lkAV (l : List Lk) : AV := .rsl l.length 3 (lkF l)
abbrev Ls.cs (x : Ls) : List AV := [i64 x.dr, i64 x.li, i64 x.lo, i64 x.hi]
def lsF (l : List Ls) : Nat → List AV := fun i => (l.getD i ls0).cs
theorem lsF_at (l : List Ls) (i : Nat) : lsF l i = [i64 (l.getD i ls0).dr, i64 (l.getD i ls0).li, i64 (l.getD i ls0).lo, i64 (l.getD i ls0).hi] := rfl
abbrev lsAV (l : List Ls) : AV := .rsl l.length 4 (lsF l)
abbrev Hl.cs (h : Hl) : List AV := [lkAV h.sm, lsAV h.so]
abbrev Hl.av (h : Hl) : AV := .agg h.cs
abbrev hlptr (h : Hl) : AV := .rptr 1 2 (fun _ => h.cs) 0 0
/-- A hull that is valid. -/
structure OkH (h : Hl) : Prop where
 n1 : 1 ≤ h.sm.length
 nS : h.sm.length ≤ 6
 nQ : h.so.length ≤ 8
 s : ∀ i, i < h.sm.length → (0 ≤ (h.seam i).ht ∧ (h.seam i).ht ≤ 12) ∧ (-1 ≤ (h.seam i).sd ∧ (h.seam i).sd ≤ 1) ∧ 0 ≤ (h.seam i).mo ∧ (h.seam i).mo ≤ 4
 q : ∀ i, i < h.so.length → ((0 ≤ (h.snd i).dr ∧ (h.snd i).dr ≤ 12) ∧ -3 ≤ (h.snd i).li ∧ (h.snd i).li ≤ 3) ∧ 0 ≤ (h.snd i).lo ∧ (h.snd i).lo ≤ (h.snd i).hi ∧ (h.snd i).hi ≤ 24
theorem OkH.M {h : Hl} (k : OkH h) {i : Nat} (hi : i < h.sm.length) : ((h.M i : Nat) : Int) = (h.seam i).mo ∧ h.M i ≤ 4 := by
 have := (k.s i hi).2.2
 unfold Hl.M
 omega
theorem moL_at (h : Hl) {i : Nat} (hi : i < h.sm.length) : (h.sm.map fun x => x.mo).getD i 0 = (h.seam i).mo := by
 simp [Hl.seam, List.getD_eq_getElem?_getD, hi]
def moL (h : Hl) : List Int := h.sm.map fun x => x.mo
theorem moL_len (h : Hl) : (moL h).length = h.sm.length := by simp [moL]
abbrev hC (h : Hl) (a : AV) (im : Nat) : List AV := [lkAV h.sm, lsAV h.so, a, .map im]
abbrev hP (h : Hl) (im : Nat) : AV := .rptr 1 4 (fun _ => hC h (intsAV (moL h)) im) 0 0
/-- What each seam lets in. -/
def ifF (b : List Int) : Nat → List AV := fun i => [i64 (b.getD i 0)]
theorem ifF_at (b : List Int) (i : Nat) : ifF b i = [i64 (b.getD i 0)] := rfl
abbrev ifAV (b : List Int) : AV := .arr 6 1 (ifF b)

abbrev refL (e : Int) : AV := .iface 163 (.agg [i64 e])
theorem lwithin_tri (n lo hi : Int) (H : Hp) : PTri Try.prog (fnA 79) [i64 n, i64 lo, i64 hi] H (boo (decide (lo ≤ n) && decide (n ≤ hi))) := by
 refine tri_v0 (fun _ => false) Try.func79 (by kernel_rfl) rfl (by simp only [List.length_append, List.length_cons, List.length_nil, Try.ntmps79]; decide) ?_
 simp only [vsAll, binA, binLitA, intA, pickA, opA, guardV, dstOk, nilSliceOp, resA, argFr, retA.eq_1, Nat.reduceLT, Nat.reduceEqDiff, ↓reduceIte, reduceCtorEq, implies_true, eq_self, Try.ntmps79, Try.results79]
theorem lwant_tri (b : Bool) (e : Int) (H : Hp) : Tri Try.prog (fnA 78) [boo b, i64 e] H fun r H' => H' = H ∧ r = if b then .ret (.tuple []) else .pan (refL e) := by
 refine tri_v0 (fun _ => false) Try.func78 (by kernel_rfl) rfl (by simp only [List.length_append, List.length_cons, List.length_nil, Try.ntmps78]; decide) ?_
 simp only [vsAll, unA, opA, dstOk, argFr, Nat.reduceLT, ↓reduceIte, eq_self, Try.ntmps78]
 refine condV (fun hc => ?_) (fun hc => ?_)
 ·simp only [Bool.not_eq_true'] at hc
  subst hc
  simp only [vsAll, cellA, cellsA, fillA, okParts, ifaceA, partsA, partsOk, opA, dstOk, panA, argFr, Nat.reduceLT, Nat.reduceEqDiff, ↓reduceIte, eq_self, wtAll]
 ·simp only [Bool.not_eq_false'] at hc
  subst hc
  simp only [vsAll, resA, retA.eq_2, ↓reduceIte, eq_self, Try.results78]
theorem lwant_call {b : Bool} {e : Int} {H : Hp} {K : AV → Hp → Prop} {Kp : AV → Hp → Prop} (h1 : b = true → K (.tuple []) H) (h2 : b = false → Kp (refL e) H) :
  CallK Try.prog (fnA 78) [boo b, i64 e] H K Kp := by
 refine ⟨_, lwant_tri b e H, ?_⟩
 rintro r H' ⟨rfl, rfl⟩
 cases b
 ·exact h2 rfl
 ·exact h1 rfl
theorem lhas_tri (S n : Nat) (H : Hp) (hn : n < 60) (hS : S < 2 ^ 60) : PTri Try.prog (fnA 114) [u64 (S : Nat), i64 n] H (boo (S.testBit n)) := by
 refine tri_v0 (fun _ => false) Try.func114 (by kernel_rfl) rfl (by simp only [List.length_append, List.length_cons, List.length_nil, Try.ntmps114]; decide) ?_
 simp only [vsAll, binA, binLitA, intA, opA, dstOk, nilSliceOp, resA, argFr, retA.eq_1, Nat.reduceLT, Nat.reduceEqDiff, Int.reduceLE, Int.reduceToNat, ↓reduceIte, reduceCtorEq, eq_self, Try.ntmps114, Try.results114]
 refine ⟨⟨by omega, by omega, rfl⟩, ?_, congrArg _ (congrArg _ (congrArg _ (bit_eq S n)))⟩
 have h2 : S / 2 ^ n ≤ S := Nat.div_le_self _ _
 have h1 : (S : Int) / 2 ^ n = ((S / 2 ^ n : Nat) : Int) := by simp
 rw [h1]
 generalize S / 2 ^ n = q at *
 exact ⟨by omega, by simp only [InR_u64]; omega, by simp only [InR_u64]; omega⟩
theorem lflows_tri (a b : Int) (H : Hp) (ha : -1000 ≤ a ∧ a ≤ 1000) (hb : -1000 ≤ b ∧ b ≤ 1000) : PTri Try.prog (fnA 115) [intsAV [a, b]] H (i64 (a + b)) := by
 refine tri_v0 (fun _ => false) Try.func115 (by kernel_rfl) rfl (by simp only [List.length_append, List.length_cons, List.length_nil, Try.ntmps115]; decide) ?_
 simp only [vsAll, lenA, opA, dstOk, nilSliceOp, argFr, Nat.reduceAdd, Nat.reduceLT, ↓reduceIte, reduceCtorEq, eq_self, wtAll, Try.ntmps115]
 refine vs_loop (σ := Nat) (fun i => i ≤ 2) (fun i => [(2, i64 (if i = 0 then 0 else if i = 1 then a else a + b)), (5, intsAV [a, b]), (6, i64 2), (7, i64 i)]) (fun _ => H) (fun i => 2 - i) 0 (Nat.zero_le _) ?_ HSub_rfl fun i hi => ?_
 ·simp only [vsAll, Nat.reduceEqDiff, ↓reduceIte, eq_self, Int.natCast_zero]
  exact ⟨AV.Le.refl _, AV.Le.refl _⟩
 ·simp only [vsAll, binA, binLitA, intA, opA, dstOk, Nat.reduceLT, Nat.reduceEqDiff, ↓reduceIte, eq_self]
  refine condD (fun hd => ?_) (fun hd => ?_)
  ·have h2 : i < 2 := by omega
   rcases (by omega : i = 0 ∨ i = 1) with rfl | rfl
   ·simp only [vsAll, binA, binLitA, intA, loadA, loadRow, partA, partOk, indexAddrA, opA, dstOk, nilSliceOp, Nat.reduceAdd, Nat.reduceLT, Nat.reduceEqDiff, Int.reduceAdd, Int.reduceLE, Int.reduceLT, Int.reduceToNat, ↓reduceIte, eq_self, wtAll, intF_at, Int.natCast_zero]
    refine ⟨by omega, by simp only [InR_i64]; omega, by simp only [InR_i64]; omega, loop_next 1 (by omega) (by omega) ?_ HSub_rfl⟩
    simp only [vsAll, Nat.reduceEqDiff, ↓reduceIte, reduceCtorEq, eq_self, Int.zero_add, Int.natCast_one]
   ·simp only [vsAll, binA, binLitA, intA, loadA, loadRow, partA, partOk, indexAddrA, opA, dstOk, nilSliceOp, Nat.reduceAdd, Nat.reduceLT, Nat.reduceEqDiff, Int.reduceAdd, Int.reduceLE, Int.reduceLT, Int.reduceToNat, ↓reduceIte, reduceCtorEq, eq_self, wtAll, intF_at, Int.natCast_one]
    refine ⟨by omega, by simp only [InR_i64]; omega, by simp only [InR_i64]; omega, loop_next 2 (by omega) (by omega) ?_ HSub_rfl⟩
    simp only [vsAll, Nat.reduceEqDiff, ↓reduceIte, reduceCtorEq, eq_self]
    exact AV.Le.refl _
  ·have ei : i = 2 := by omega
   subst ei
   simp only [vsAll, opA, dstOk, nilSliceOp, resA, retA.eq_1, Nat.reduceLT, Nat.reduceEqDiff, ↓reduceIte, reduceCtorEq, eq_self, Try.results115]
theorem isPlace_tri (d l : Int) (H : Hp) : PTri Try.prog (fnA 35) [.agg [i64 d, i64 l]] H (boo ((decide (0 ≤ d) && decide (d ≤ 12)) && (decide (-3 ≤ l) && decide (l ≤ 3)))) := by
 refine tri_v0 (fun _ => false) Try.func35 (by kernel_rfl) rfl (by simp only [List.length_append, List.length_cons, List.length_nil, Try.ntmps35]; decide) ?_
 simp only [vsAll, loadA, loadRow, partA, partOk, fieldAddrA, boxA, boxZ, okAll, stAll, opsA, opA, dstOk, nilSliceOp, argFr, Nat.reduceAdd, Nat.reduceLT, Nat.reduceEqDiff, Int.reduceNeg, ↓reduceIte, eq_self, wtAll, Try.ntmps35]
 refine callK_pure (lwithin_tri _ _ _ _) ?_
 simp only [vsAll, loadA, loadRow, partA, partOk, fieldAddrA, opA, guardV, dstOk, Nat.reduceLT, Nat.reduceEqDiff, Int.reduceNeg, ↓reduceIte, implies_true, eq_self, wtAll]
 refine gcall _ (fun g => ⟨by simp only [vsAll, opA], by simp only [vsAll, okAll, opsA, opA, Int.reduceNeg, ↓reduceIte, eq_self, g], lwithin_tri l (-3) 3 _⟩) ?_
 simp only [vsAll, pickA, opA, dstOk, nilSliceOp, resA, retA.eq_1, Nat.reduceLT, Nat.reduceEqDiff, Int.reduceNeg, ↓reduceIte, implies_true, eq_self, Try.results35]
theorem lsum_bd {S : Nat} {b : List Int} (hb : ∀ i, 0 ≤ b.getD i 0 ∧ b.getD i 0 ≤ 4) : ∀ i, 0 ≤ lsN S b i ∧ lsN S b i ≤ 4 * (i : Int)
 | 0 => by simp [lsN, smZ]
 | i + 1 => by
   have ih := lsum_bd (S := S) hb i
   have := hb i
   have hi : 0 ≤ inn S b i ∧ inn S b i ≤ 4 := by unfold inn; split <;> omega
   unfold lsN at ih ⊢
   simp only [smZ]
   omega
theorem lint2 (a b : Int) : AV.Le (.rsl 2 1 (fun i => [[i64 a], [i64 b]].getD i [])) (intsAV [a, b]) := AV.Le.rsl fun i hi => by
 match i, hi with
 | 0, _ => rfl
 | 1, _ => rfl
theorem lflows2 (a b : Int) (H : Hp) (ha : -1000 ≤ a ∧ a ≤ 1000) (hb : -1000 ≤ b ∧ b ≤ 1000) : PTri Try.prog (fnA 115) [.rsl 2 1 (fun i => [[i64 a], [i64 b]].getD i [])] H (i64 (a + b)) := Tri.args (lflows_tri a b H ha hb) rfl fun j hj => by
 match j, hj with
 | 0, _ => exact lint2 a b
theorem lsum_tri (S : Nat) (b : List Int) (H : Hp) (hb : ∀ i, 0 ≤ b.getD i 0 ∧ b.getD i 0 ≤ 4) (hS : S < 2 ^ 60) : PTri Try.prog (fnA 80) [ifAV b, u64 (S : Nat)] H (i64 (lsN S b 6)) := by
 refine tri_v0 (fun _ => false) Try.func80 (by kernel_rfl) rfl (by simp only [List.length_append, List.length_cons, List.length_nil, Try.ntmps80]; decide) ?_
 simp only [vsAll, loadA, loadRow, boxA, boxZ, opA, dstOk, nilSliceOp, argFr, Nat.reduceLT, Nat.reduceEqDiff, ↓reduceIte, eq_self, wtAll, Try.ntmps80]
 refine vs_loop (σ := Nat) (fun i => i ≤ 6) (fun i => [(1, u64 (S : Nat)), (4, i64 (lsN S b i)), (7, ifAV b), (8, i64 i)]) (fun _ => H) (fun i => 6 - i) 0 (Nat.zero_le _) ?_ HSub_rfl fun i hi => ?_
 ·have e0 : lsN S b 0 = 0 := rfl
  simp only [vsAll, argFr, Nat.reduceEqDiff, ↓reduceIte, eq_self, Int.natCast_zero, e0]
 ·simp only [vsAll, binA, binLitA, intA, opA, dstOk, Nat.reduceLT, Nat.reduceEqDiff, ↓reduceIte, eq_self]
  refine condD (fun hd => ?_) (fun hd => ?_)
  ·have his : i < 6 := by omega
   have hs := lsum_bd (S := S) hb i
   have hbi := hb i
   have es : lsN S b (i + 1) = lsN S b i + inn S b i := rfl
   simp only [vsAll, partA, indexA, okAll, stAll, opsA, opA, dstOk, nilSliceOp, Nat.reduceLT, Nat.reduceEqDiff, ↓reduceIte, eq_self, wtAll, ifF_at]
   refine ⟨by omega, callK_pure (lhas_tri S i _ (by omega) hS) ?_⟩
   simp only [vsAll, opA, ↓reduceIte, eq_self]
   refine condV (fun hc => ?_) (fun hc => ?_)
   ·have ei : inn S b i = b.getD i 0 := if_pos hc
    rw [ei] at es
    simp only [vsAll, cellA, cellsA, okParts, buildSliceA, partIdx, elemsA, lensA, okAll, stAll, opsA, partsA, partsOk, opA, dstOk, Nat.reduceAdd, Nat.reduceMul, Nat.reduceLT, Nat.reduceLeDiff, Nat.reduceEqDiff, ↓reduceIte, eq_self, wtAll]
    refine callK_pure (lflows2 _ _ _ (by omega) (by omega)) ?_
    simp only [vsAll, binA, binLitA, intA, opA, dstOk, nilSliceOp, Nat.reduceLT, Nat.reduceEqDiff, ↓reduceIte, eq_self]
    refine ⟨by simp only [InR_i64]; omega, loop_next (i + 1) his (by omega) ?_ HSub_rfl⟩
    simp only [vsAll, Nat.reduceEqDiff, ↓reduceIte, eq_self, es, Int.natCast_add, Int.natCast_one]
   ·have ei : inn S b i = 0 := if_neg (by rw [hc]; decide)
    rw [ei, Int.add_zero] at es
    simp only [vsAll, binA, binLitA, intA, opA, dstOk, Nat.reduceLT, Nat.reduceEqDiff, ↓reduceIte, eq_self]
    refine ⟨by simp only [InR_i64]; omega, loop_next (i + 1) his (by omega) ?_ HSub_rfl⟩
    simp only [vsAll, Nat.reduceEqDiff, ↓reduceIte, eq_self, es, Int.natCast_add, Int.natCast_one]
  ·have ei : i = 6 := by omega
   subst ei
   simp only [vsAll, opA, dstOk, nilSliceOp, resA, retA.eq_1, Nat.reduceLT, Nat.reduceEqDiff, ↓reduceIte, eq_self, Try.results80]
/-- Which seams leak. -/
def lksN (b : List Int) (n : Nat) : Nat := bitN (fun i => decide (0 < b.getD i 0)) n
theorem shl1 (n : Nat) : (1 : Int) * 2 ^ n = ((2 ^ n : Nat) : Int) := by rw [Int.one_mul]; simp
end Go.Proofs.Ytclkjifgipcamaa
end
section
set_option linter.unusedVariables false
set_option linter.unusedSimpArgs false
namespace Go.V
set_option linter.unusedSectionVars false
variable [Inhabited GivT]
/-- What one cell holds. -/
inductive CK where
 | int (k : IntKind)
 | bool
 | sl (ks : List CK)

/-- The cells of a type. -/
def cellsT (P : Program) : Nat → TypeId → Option (List CK)
 | 0, _ => none
 | d + 1, t => match P.underlying t with
   | some .bool => some [.bool]
   | some (.int k) => some [.int k]
   | some (.slice e) => match cellsT P d e with
     | some ks => if P.cellsOf e = ks.length ∧ 0 < ks.length then some [.sl ks] else none
     | none => none
   | some (.array n e) => match cellsT P d e with
     | some ks => if P.cellsOf e = ks.length ∧ P.cellsOf t = n * ks.length then some ((List.replicate n ks).flatten) else none
     | none => none
   | some (.struct fs) => match fs.toList.foldl (fun acc f => match acc with
     | some ks => match cellsT P d f.type with
       | some l => if f.offset = ks.length ∧ P.cellsOf f.type = l.length then some (ks ++ l) else none
       | none => none
     | none => none) (some []) with
     | some ks => if P.cellsOf t = ks.length then some ks else none
     | none => none
   | _ => none

/-- Such an abstract value. -/
inductive CKA : CK → AV → Prop
 | int {k : IntKind} {z : Int} (h : (Lit.int k z).wf = true) : CKA (.int k) (.lit (.int k z))
 | bool {b : Bool} : CKA .bool (.lit (.bool b))
 | sl {ks : List CK} {n : Nat} {f : Nat → List AV} (hn : n ≤ maxLen) (hl : ∀ i, i < n → (f i).length = ks.length) (h : ∀ i j k, i < n → ks[j]? = some k → CKA k ((f i).getD j .any)) : CKA (.sl ks) (.rsl n ks.length f)

def CellIs (W : World) (k : CK) (v : Value) : Prop := ∃ av, CKA k av ∧ VRel (st0 W) av v
def CellsOk (W : World) (ks : List CK) (cs : List Value) : Prop := cs.length = ks.length ∧ ∀ (i : Nat) (k : CK) (v : Value), ks[i]? = some k → cs[i]? = some v → CellIs W k v

theorem CellsOk.append {W : World} {ks ls : List CK} {cs ds : List Value} (h : CellsOk W ks cs) (h' : CellsOk W ls ds) : CellsOk W (ks ++ ls) (cs ++ ds) := by
 refine ⟨by simp [h.1, h'.1], fun i k v hk hv => ?_⟩
 by_cases hi : i < ks.length
 ·rw [List.getElem?_append_left hi] at hk
  rw [List.getElem?_append_left (by rw [h.1]; exact hi)] at hv
  exact h.2 i k v hk hv
 ·rw [List.getElem?_append_right (by omega)] at hk
  rw [List.getElem?_append_right (by rw [h.1]; omega), h.1] at hv
  exact h'.2 _ k v hk hv

end Go.V
end
section
set_option linter.unusedVariables false
set_option linter.unusedSimpArgs false
namespace Go.V
set_option linter.unusedSectionVars false
variable [Inhabited GivT]
open Go.ChangeShapes
theorem AV.Le.aggD {cs ds : List AV} (hl : ds.length = cs.length) (h : ∀ j, j < cs.length → AV.Le (cs.getD j .any) (ds.getD j .any)) : AV.Le (.agg cs) (.agg ds) := by
 intro S v hv
 cases hv with
 | agg hn hh => exact .agg (hn.trans hl.symm) fun k hk => h k (by omega) _ _ (hh k (by omega))

/-- Cells that are told. -/
def Told (ks : List CK) (cs : List AV) : Prop := cs.length = ks.length ∧ ∀ j k, ks[j]? = some k → CKA k (cs.getD j .any)

end Go.V
end
section
set_option linter.unusedVariables false
set_option linter.unusedSimpArgs false
namespace Go.V
set_option linter.unusedSectionVars false
variable [Inhabited GivT]
theorem kl_int {P : Program} {d : Nat} {T : TypeId} {q : IntKind} {n : Int} (hu : P.underlying T = some (.int q)) (hw : (Lit.int q n).wf = true) : P.keyLits (d + 1) T [.int q n] = some [.int q n] := by
 simp [Program.keyLits, hu, hw]
end Go.V
end
section
set_option linter.unusedVariables false
set_option linter.unusedSimpArgs false
namespace Go.V
set_option linter.unusedSectionVars false
variable [Inhabited GivT]
def slcT (P : Program) (T : TypeId) : Bool := match P.underlying T with
 | some (.slice _) => true
 | _ => false
section
variable {P : Program} {m : Option Tmp → Bool} {n id : Nat} {ops : Array Oper} {s : Fr} {ds : List AD} {H : Hp} {Q : Post}
end
end Go.V
end
section
set_option linter.unusedVariables false
namespace Go.Proofs.Ytclkjifgipcamaa.Wl
open Go.V
/-- A sounding. -/
structure Sd where
 w : Int
 a : Int
 b : Int
 c : Int
 d : Int

/-- A hold. -/
structure Hd where
 n : Nat
 fl : Nat → Int
 m : Nat
 sd : Nat → Sd

abbrev Sd.cs (s : Sd) : List AV := [i64 s.w, i64 s.a, i64 s.b, i64 s.c, i64 s.d]
abbrev flAV (n : Nat) (fl : Nat → Int) : AV := .rsl n 1 fun i => [i64 (fl i)]
abbrev sdAV (m : Nat) (sd : Nat → Sd) : AV := .rsl m 5 fun i => (sd i).cs
abbrev Hd.cs (h : Hd) : List AV := [flAV h.n h.fl, sdAV h.m h.sd]
abbrev Hd.av (h : Hd) : AV := .agg h.cs

def b64 (n : Int) : Prop := -9223372036854775808 ≤ n ∧ n ≤ 9223372036854775807

/-- The depth in a part, under a surface. -/
def uz (h : Hd) (s t p : Int) : Int := max 0 (s + t * (p - (h.n : Int) / 2) - h.fl p.toNat)
/-- The water under a surface, in the first parts. -/
def volN (h : Hd) (s t : Int) : Nat → Int
 | 0 => 0
 | k + 1 => volN h s t k + uz h s t k
def vol (h : Hd) (s t : Int) : Int := volN h s t h.n
/-- How high so much water stands. -/
def hzF (h : Hd) (w t : Int) : Nat → Int → Int
 | 0, s => s
 | k + 1, s => if vol h (s + 1) t ≤ w then hzF h w t k (s + 1) else s
def hz (h : Hd) (w t : Int) : Int := hzF h w t 140 (-20)
/-- The depth in a part, of so much water. -/
def dz (h : Hd) (w t p : Int) : Int := uz h (hz h w t) t p
/-- Can a sounding have been made with a list, of so much water? -/
def rightB (h : Hd) (s : Sd) (w t : Int) : Bool := decide (s.a ≤ t) && decide (t ≤ s.b) && (decide (s.c ≤ dz h w t s.w) && decide (dz h w t s.w ≤ s.d))
/-- One of the first k lists. -/
def anyN (h : Hd) (s : Sd) (w : Int) (k : Nat) : Bool := (List.range k).any fun j => rightB h s w ((j : Int) - 2)
def okc (h : Hd) (w : Int) (S i : Nat) : Bool := !S.testBit i || anyN h (h.sd i) w 5
def canB (h : Hd) (w : Int) (S : Nat) : Bool := decide (∀ i, i < h.m → okc h w S i = true)
def amtsN (h : Hd) (S n : Nat) : List Nat := (List.range n).filter fun w => canB h w S
def amts (h : Hd) (S : Nat) : List Nat := amtsN h S 101
/-- A list of numbers. -/
def natF (l : List Nat) : Nat → List AV := fun i => [i64 ((l.getD i 0 : Nat) : Int)]
abbrev natsAV (l : List Nat) : AV := .rsl l.length 1 (natF l)
def spanF (l : List (Int × Int)) : Nat → List AV := fun i => [i64 (l.getD i (0, 0)).1, i64 (l.getD i (0, 0)).2]
abbrev spansAV (l : List (Int × Int)) : AV := .rsl l.length 2 (spanF l)
theorem spanF_at (l : List (Int × Int)) (i : Nat) : spanF l i = [i64 (l.getD i (0, 0)).1, i64 (l.getD i (0, 0)).2] := rfl
theorem app_spans (l : List (Int × Int)) (a b : Int) (g : Nat → List AV) (hg : g 0 = [i64 a, i64 b]) : appF l.length 1 (spanF l) g = spanF (l ++ [(a, b)]) := by
 funext k
 simp only [appF, spanF, hg, getD_snoc]
 split <;> rfl
/-- A valid hold's numbers. -/
structure HOk (h : Hd) : Prop where
 n : h.n = 3 ∨ h.n = 5 ∨ h.n = 7
 m : h.m ≤ 6
 f : ∀ p : Nat, p < h.n → 0 ≤ h.fl p ∧ h.fl p ≤ 9
 w : ∀ i : Nat, i < h.m → 0 ≤ (h.sd i).w ∧ (h.sd i).w < h.n
 l : ∀ i : Nat, i < h.m → -2 ≤ (h.sd i).a ∧ (h.sd i).a ≤ (h.sd i).b ∧ (h.sd i).b ≤ 2
 r : ∀ i : Nat, i < h.m → 0 ≤ (h.sd i).c ∧ (h.sd i).c ≤ (h.sd i).d ∧ (h.sd i).d ≤ 40

theorem HOk.fi {h : Hd} (k : HOk h) (p : Int) (hp : 0 ≤ p ∧ p < h.n) : 0 ≤ h.fl p.toNat ∧ h.fl p.toNat ≤ 9 := k.f _ (by omega)

/-- No far too many parts or soundings. -/
structure Near (h : Hd) : Prop where
 n : h.n ≤ 40
 m : h.m ≤ 40
theorem HOk.near {h : Hd} (k : HOk h) : Near h := ⟨by have := k.n; omega, by have := k.m; omega⟩

instance decHOk (h : Hd) : Decidable (HOk h) :=
 decidable_of_iff ((h.n = 3 ∨ h.n = 5 ∨ h.n = 7) ∧ h.m ≤ 6 ∧ (∀ p, p < h.n → 0 ≤ h.fl p ∧ h.fl p ≤ 9) ∧ (∀ i, i < h.m → 0 ≤ (h.sd i).w ∧ (h.sd i).w < h.n) ∧
  (∀ i, i < h.m → -2 ≤ (h.sd i).a ∧ (h.sd i).a ≤ (h.sd i).b ∧ (h.sd i).b ≤ 2) ∧ (∀ i, i < h.m → 0 ≤ (h.sd i).c ∧ (h.sd i).c ≤ (h.sd i).d ∧ (h.sd i).d ≤ 40))
  ⟨fun ⟨a, b, c, d, e, f⟩ => ⟨a, b, c, d, e, f⟩, fun ⟨a, b, c, d, e, f⟩ => ⟨a, b, c, d, e, f⟩⟩
def allA (h : Hd) : List Nat := amts h (2 ^ h.m - 1)
def errE (h : Hd) (valid truth : Bool) : Int := if HOk h then if valid = true then if truth = true ∧ (allA h).length = 0 then 10 else 0 else 2 else 1
def amtB (w : Int) : Bool := decide (0 ≤ w) && decide (w ≤ 100)
def tiltB (t : Int) : Bool := decide (-2 ≤ t) && decide (t ≤ 2)
def partB (h : Hd) (p : Int) : Bool := decide (0 ≤ p) && decide (p ≤ (h.n : Int) - 1)
def sdnB (h : Hd) (p : Int) : Bool := decide (0 ≤ p) && decide (p ≤ (h.m : Int) - 1)
theorem tiltB_iff (w : Int) : tiltB w = true ↔ -2 ≤ w ∧ w ≤ 2 := by simp [tiltB]
theorem partB_iff (h : Hd) (p : Int) : partB h p = true ↔ 0 ≤ p ∧ p < h.n := by simp [partB]; omega
theorem errE_zero {h : Hd} {v t : Bool} (e : errE h v t = 0) : HOk h ∧ v = true ∧ (t = true → 0 < (allA h).length) := by
 unfold errE at e
 split at e
 ·split at e
  ·split at e
   ·omega
   ·rename_i h1 h2 h3
    exact ⟨h1, h2, fun ht => by apply Classical.byContradiction; intro hc; exact h3 ⟨ht, by omega⟩⟩
  ·omega
 ·omega

/-- One amount more: it lengthens the last span, or begins one. -/
def addS (acc : List (Int × Int)) (a : Int) : List (Int × Int) := match acc.getLast? with
 | some p => if p.2 = a - 1 then acc.dropLast ++ [(p.1, a)] else acc ++ [(a, a)]
 | none => acc ++ [(a, a)]
def spansL (l : List Nat) : List (Int × Int) := l.foldl (fun acc (a : Nat) => addS acc a) []
theorem spansL_snoc (l : List Nat) (a : Nat) : spansL (l ++ [a]) = addS (spansL l) a := by simp only [spansL, List.foldl_append, List.foldl_cons, List.foldl_nil]
theorem addS_len (acc : List (Int × Int)) (a : Int) : (addS acc a).length ≤ acc.length + 1 := by
 unfold addS
 split
 ·split
  ·simp
  ·simp
 ·simp
theorem spansL_len (l : List Nat) : (spansL l).length ≤ l.length := by
 suffices h : ∀ (l : List Nat) (acc : List (Int × Int)), (l.foldl (fun acc (a : Nat) => addS acc a) acc).length ≤ acc.length + l.length by
  have := h l []; simpa [spansL] using this
 intro l
 induction l with
 | nil => intro acc; simp
 | cons a l ih =>
   intro acc
   simp only [List.foldl_cons, List.length_cons]
   have := ih (addS acc a)
   have := addS_len acc a
   omega
theorem amts_le {h : Hd} {S w : Nat} (hw : w ∈ amts h S) : w ≤ 100 := by
 simp only [amts, amtsN, List.mem_filter, List.mem_range] at hw; omega
theorem amts_len (h : Hd) (S : Nat) : (amts h S).length ≤ 101 := by
 have := List.length_filter_le (fun w : Nat => canB h w S) (List.range 101)
 rw [List.length_range] at this
 exact this

theorem mapZ153q : mapZ Try.prog 153 = some (.int .i64 0) := by kernel_rfl
theorem meth217 : methT Try.prog 217 "caulkworks/well.is" 171 := fun v args w => by kernel_rfl
end Go.Proofs.Ytclkjifgipcamaa.Wl
end
section
set_option linter.unusedVariables false
set_option linter.unusedSimpArgs false
set_option maxHeartbeats 4000000
set_option maxRecDepth 100000
namespace Go.Proofs.Ytclkjifgipcamaa.Wl
open Go.V
theorem mul_small (t k : Int) (ht : -2 ≤ t ∧ t ≤ 2) (hk : -7 ≤ k ∧ k ≤ 7) : -14 ≤ t * k ∧ t * k ≤ 14 := by
 have : t = -2 ∨ t = -1 ∨ t = 0 ∨ t = 1 ∨ t = 2 := by omega
 rcases this with rfl | rfl | rfl | rfl | rfl <;> omega

theorem uz_bound (h : Hd) (s t p : Int) (k : HOk h) (hp : 0 ≤ p ∧ p < h.n) (ht : -2 ≤ t ∧ t ≤ 2) : 0 ≤ uz h s t p ∧ uz h s t p ≤ max 0 (s + 14) := by
 have hf := k.fi p hp
 have hn := k.n
 have hm := mul_small t (p - (h.n : Int) / 2) ht (by omega)
 simp only [uz]
 omega

end Go.Proofs.Ytclkjifgipcamaa.Wl
end
section
set_option linter.unusedVariables false
set_option linter.unusedSimpArgs false
set_option maxHeartbeats 4000000
set_option maxRecDepth 100000
namespace Go.Proofs.Ytclkjifgipcamaa.Wl
open Go.V
theorem uz_mono (h : Hd) (s s' t p : Int) (hs : s ≤ s') : uz h s t p ≤ uz h s' t p := by
 simp only [uz]; omega
theorem volN_mono (h : Hd) (s s' t : Int) (hs : s ≤ s') (i : Nat) : volN h s t i ≤ volN h s' t i := by
 induction i with
 | zero => simp [volN]
 | succ i ih => have := uz_mono h s s' t i hs; simp only [volN]; omega
theorem vol_mono (h : Hd) (s s' t : Int) (hs : s ≤ s') : vol h s t ≤ vol h s' t := volN_mono h s s' t hs _
theorem volN_part (h : Hd) (s t : Int) (k : HOk h) (ht : -2 ≤ t ∧ t ≤ 2) (p i : Nat) (hp : p < i) (hi : i ≤ h.n) : uz h s t p ≤ volN h s t i := by
 induction i with
 | zero => omega
 | succ i ih =>
   have h0 : ∀ j : Nat, j ≤ h.n → 0 ≤ volN h s t j := fun j hj => by
    clear ih
    induction j with
    | zero => simp [volN]
    | succ j ih2 => have := ih2 (by omega); have := uz_bound h s t j k (by omega) ht; simp only [volN]; omega
   have h1 := uz_bound h s t i k (by omega) ht
   simp only [volN]
   by_cases e : p = i
   ·subst e; have := h0 p (by omega); omega
   ·have := ih (by omega) (by omega); omega
theorem vol_big (h : Hd) (s t : Int) (k : HOk h) (ht : -2 ≤ t ∧ t ≤ 2) (hs : 110 ≤ s) : 100 < vol h s t := by
 have hn := k.n
 have h1 := volN_part h s t k ht (h.n / 2) h.n (by omega) (Nat.le_refl _)
 have h2 := k.f (h.n / 2) (by omega)
 have e : ((h.n / 2 : Nat) : Int) - (h.n : Int) / 2 = 0 := by omega
 simp only [uz, e, Int.mul_zero, Int.toNat_natCast] at h1
 simp only [vol]
 omega
theorem vol_low (h : Hd) (s t : Int) (k : HOk h) (ht : -2 ≤ t ∧ t ≤ 2) (hs : s ≤ -14) : vol h s t = 0 := by
 have : ∀ i : Nat, i ≤ h.n → volN h s t i = 0 := fun i hi => by
  induction i with
  | zero => rfl
  | succ i ih => have := uz_bound h s t i k (by omega) ht; simp only [volN, ih (by omega)]; omega
 exact this _ (Nat.le_refl _)
theorem hzF_spec (h : Hd) (w t : Int) (k : HOk h) (ht : -2 ≤ t ∧ t ≤ 2) (hw : 0 ≤ w ∧ w ≤ 100) (f : Nat) (s : Int) (hs : vol h s t ≤ w) (hl : -20 ≤ s) (hf : 110 ≤ s + f) :
  -20 ≤ hzF h w t f s ∧ hzF h w t f s ≤ 110 ∧ vol h (hzF h w t f s) t ≤ w ∧ w < vol h (hzF h w t f s + 1) t := by
 induction f generalizing s with
 | zero => have := vol_big h s t k ht (by omega); omega
 | succ f ih =>
   simp only [hzF]
   split
   ·rename_i h1; exact ih (s + 1) h1 (by omega) (by omega)
   ·rename_i h1
    refine ⟨hl, ?_, hs, by omega⟩
    apply Classical.byContradiction; intro h2
    have := vol_big h s t k ht (by omega); omega
theorem hz_spec (h : Hd) (w t : Int) (k : HOk h) (ht : -2 ≤ t ∧ t ≤ 2) (hw : 0 ≤ w ∧ w ≤ 100) :
  -20 ≤ hz h w t ∧ hz h w t ≤ 110 ∧ vol h (hz h w t) t ≤ w ∧ w < vol h (hz h w t + 1) t := by
 have h1 := vol_low h (-20) t k ht (by omega)
 exact hzF_spec h w t k ht hw 140 (-20) (by omega) (by omega) (by omega)
theorem hz_unique (h : Hd) (w t s : Int) (k : HOk h) (ht : -2 ≤ t ∧ t ≤ 2) (hw : 0 ≤ w ∧ w ≤ 100) (h1 : vol h s t ≤ w) (h2 : w < vol h (s + 1) t) : s = hz h w t := by
 obtain ⟨_, _, h3, h4⟩ := hz_spec h w t k ht hw
 apply Classical.byContradiction; intro hne
 by_cases hlt : s < hz h w t
 ·have := vol_mono h (s + 1) (hz h w t) t (by omega); omega
 ·have := vol_mono h (hz h w t + 1) s t (by omega); omega

end Go.Proofs.Ytclkjifgipcamaa.Wl
end
section
set_option linter.unusedVariables false
set_option linter.unusedSimpArgs false
set_option maxHeartbeats 4000000
set_option maxRecDepth 100000
namespace Go.Proofs.Ytclkjifgipcamaa.Wl
open Go.V
def standE (h : Hd) (w t : Int) : Int := errE h (amtB w && tiltB t) false
def standV (h : Hd) (w t : Int) : Int := if standE h w t = 0 then hz h w t else 0
def depthE (h : Hd) (w t p : Int) : Int := errE h (amtB w && tiltB t && partB h p) false
def depthV (h : Hd) (w t p : Int) : Int := if depthE h w t p = 0 then dz h w t p else 0
end Go.Proofs.Ytclkjifgipcamaa.Wl
end
section
set_option linter.unusedVariables false
set_option linter.unusedSimpArgs false
set_option maxHeartbeats 4000000
set_option maxRecDepth 100000
namespace Go.Proofs.Ytclkjifgipcamaa.Wl
open Go.V
theorem ints_tri (a b : List Int) (H : Hp) (ha : a.length < 2 ^ 60) (hb : b.length < 2 ^ 60) : PTri Try.prog (fnA 95) [intsAV a, intsAV b] H (boo (decide (a = b))) := by
 refine tri_v0 (fun _ => false) Try.func95 (by kernel_rfl) rfl (by simp only [List.length_append, List.length_cons, List.length_nil, Try.ntmps95]; decide) ?_
 simp only [vsAll, binA, binLitA, intA, lenA, opA, dstOk, nilSliceOp, argFr, Nat.reduceLT, Nat.reduceEqDiff, ↓reduceIte, reduceCtorEq, eq_self, wtAll, Try.ntmps95]
 refine condV (fun hc => ?_) (fun hc => ?_)
 ·have : decide (a = b) = false := decide_eq_false fun e => by subst e; simp at hc
  simp only [vsAll, opA, dstOk, nilSliceOp, resA, retA.eq_1, Nat.reduceLT, ↓reduceIte, eq_self, Try.results95, this]
 ·simp only [Bool.not_eq_false', decide_eq_true_eq] at hc
  simp only [vsAll, opA, dstOk, nilSliceOp, Nat.reduceLT, eq_self]
  refine vs_loop (σ := Nat) (fun i => i ≤ a.length ∧ ∀ j, j < i → a.getD j 0 = b.getD j 0) (fun i => [(0, intsAV a), (1, intsAV b), (5, i64 i)]) (fun _ => H) (fun i => a.length - i) 0 ⟨Nat.zero_le _, fun j hj => absurd hj (by omega)⟩ ?_ ?_ fun i hi => ?_
  ·simp only [vsAll, argFr, Nat.reduceEqDiff, ↓reduceIte, reduceCtorEq, eq_self, Int.natCast_zero]
  ·simp only [HSub_refl]
  ·obtain ⟨hi, hall⟩ := hi
   simp only [vsAll, binA, binLitA, intA, lenA, opA, dstOk, Nat.reduceLT, Nat.reduceEqDiff, ↓reduceIte, reduceCtorEq, eq_self, wtAll]
   refine condD (fun hd => ?_) (fun hd => ?_)
   ·simp only [vsAll]
    refine vs_draw 9 (by decide +kernel) ?_
    simp only [vsAll, binA, binLitA, intA, loadA, loadRow, partA, partOk, indexAddrA, opA, dstOk, Nat.reduceLT, Nat.reduceEqDiff, ↓reduceIte, reduceCtorEq, eq_self, wtAll, intF_at]
    refine ⟨by omega, by omega, by omega, by omega, condV (fun hf => ?_) (fun hf => ?_)⟩
    ·have : decide (a = b) = false := decide_eq_false fun e => by subst e; simp at hf
     simp only [vsAll, opA, dstOk, nilSliceOp, resA, retA.eq_1, Nat.reduceLT, ↓reduceIte, eq_self, Try.results95, this]
    ·simp only [Bool.not_eq_false', decide_eq_true_eq] at hf
     simp only [vsAll, binA, binLitA, intA, opA, dstOk, nilSliceOp, Nat.reduceLT, Nat.reduceEqDiff, ↓reduceIte, reduceCtorEq, eq_self]
     refine ⟨by simp only [InR_i64]; omega, loop_next (i + 1) ⟨by omega, fun j hj => ?_⟩ (by omega) ?_ ?_⟩
     ·by_cases e : j = i
      ·subst e; exact hf
      ·exact hall j (by omega)
     ·simp only [vsAll, Nat.reduceEqDiff, ↓reduceIte, reduceCtorEq, eq_self, Int.natCast_add, Int.natCast_one]
     ·simp only [HSub_refl]
   ·have ei : i = a.length := by omega
    subst ei
    have : decide (a = b) = true := decide_eq_true (by
     apply List.ext_getElem (by omega)
     intro j h1 h2
     have := hall j h1
     rw [List.getD_eq_getElem?_getD, List.getD_eq_getElem?_getD, List.getElem?_eq_getElem h1, List.getElem?_eq_getElem h2] at this
     exact this)
    simp only [vsAll, opA, dstOk, nilSliceOp, resA, retA.eq_1, Nat.reduceLT, ↓reduceIte, eq_self, Try.results95, this]

def overE (h : Hd) (w : Int) : Int := errE h (amtB w) true
def overV (h : Hd) (w : Int) : Int := if overE h w = 0 then (if w < ((allA h).getD 0 0 : Nat) then 2 else if (((allA h).getD ((allA h).length - 1) 0 : Nat) : Int) ≤ w then 0 else 1) else 0
end Go.Proofs.Ytclkjifgipcamaa.Wl
end
section
set_option linter.unusedVariables false
set_option linter.unusedSimpArgs false
set_option maxHeartbeats 4000000
set_option maxRecDepth 100000
namespace Go.Proofs.Ytclkjifgipcamaa.Wl
open Go.V
theorem within_tri (n low high : Int) (H : Hp) : PTri Try.prog (fnA 75) [i64 n, i64 low, i64 high] H (boo (decide (low ≤ n) && decide (n ≤ high))) := by
 refine tri_v0 (fun _ => false) Try.func75 (by kernel_rfl) rfl (by simp only [List.length_append, List.length_cons, List.length_nil, Try.ntmps75]; decide) ?_
 simp only [vsAll, binA, binLitA, intA, pickA, opA, guardV, dstOk, nilSliceOp, resA, argFr, retA.eq_1, Nat.reduceLT, Nat.reduceEqDiff, ↓reduceIte, reduceCtorEq, implies_true, eq_self, Try.ntmps75, Try.results75]

theorem ask_tri (b : Bool) (e : Int) (H : Hp) : Tri Try.prog (fnA 74) [boo b, i64 e] H fun r H' => H' = H ∧ r = if b then .ret (.tuple []) else .pan (.iface 150 (i64 e)) := by
 refine tri_v0 (fun _ => false) Try.func74 (by kernel_rfl) rfl (by simp only [List.length_append, List.length_cons, List.length_nil, Try.ntmps74]; decide) ?_
 simp only [vsAll, unA, opA, dstOk, argFr, Nat.reduceLT, ↓reduceIte, eq_self, Try.ntmps74]
 refine condV (fun hc => ?_) (fun hc => ?_)
 ·simp only [Bool.not_eq_true'] at hc
  subst hc
  simp only [vsAll, ifaceA, opA, dstOk, panA, argFr, Nat.reduceLT, Nat.reduceEqDiff, ↓reduceIte, eq_self, wtAll]
 ·simp only [Bool.not_eq_false'] at hc
  subst hc
  simp only [vsAll, resA, retA.eq_2, ↓reduceIte, eq_self, Try.results74]

theorem ask_call {b : Bool} {e : Int} {H : Hp} {K : AV → Hp → Prop} {Kp : AV → Hp → Prop} (h1 : b = true → K (.tuple []) H) (h2 : b = false → Kp (.iface 150 (i64 e)) H) :
  CallK Try.prog (fnA 74) [boo b, i64 e] H K Kp := by
 refine ⟨_, ask_tri b e H, ?_⟩
 rintro r H' ⟨rfl, rfl⟩
 cases b
 ·exact h2 rfl
 ·exact h1 rfl

theorem rise_tri (t k : Int) (H : Hp) (hr : -1000 ≤ t * k ∧ t * k ≤ 1000) : PTri Try.prog (fnA 112) [.agg [i64 t], i64 k] H (i64 (t * k)) := by
 refine tri_v0 (fun _ => false) Try.func112 (by kernel_rfl) rfl (by simp only [List.length_append, List.length_cons, List.length_nil, Try.ntmps112]; decide) ?_
 simp only [vsAll, binA, binLitA, intA, loadA, loadRow, partA, partOk, fieldAddrA, boxA, boxZ, opA, dstOk, nilSliceOp, resA, argFr, retA.eq_1, Nat.reduceLT, Nat.reduceEqDiff, ↓reduceIte, eq_self, wtAll, Try.ntmps112, Try.results112]
 simp only [InR_i64]
 omega

/-- By how much a surface is above a part's floor. -/
def dr (h : Hd) (s t p : Int) : Int := s + t * (p - (h.n : Int) / 2) - h.fl p.toNat
theorem uz_dr (h : Hd) (s t p : Int) : uz h s t p = max 0 (dr h s t p) := rfl

abbrev hdC (h : Hd) (id : Nat) : List AV := [flAV h.n h.fl, sdAV h.m h.sd, .map id]
abbrev hdP (h : Hd) (id : Nat) : AV := .rptr 1 3 (fun _ => hdC h id) 0 0

theorem depth_tri (h : Hd) (id : Nat) (s t p : Int) (H : Hp) (k : HOk h) (hp : 0 ≤ p ∧ p < h.n) (hs : -1000 ≤ s ∧ s ≤ 1000) (ht : -2 ≤ t ∧ t ≤ 2) :
  PTri Try.prog (fnA 76) [hdP h id, .agg [i64 t, i64 s], i64 p] H (i64 (dr h s t p)) := by
 have hf := k.fi p hp
 have hn := k.n
 have e : (h.n : Int).tdiv 2 = (h.n : Int) / 2 := Int.tdiv_eq_ediv_of_nonneg (by omega)
 have hm := mul_small t (p - (h.n : Int) / 2) ht (by omega)
 refine tri_v0 (fun _ => false) Try.func76 (by kernel_rfl) rfl (by simp only [List.length_append, List.length_cons, List.length_nil, Try.ntmps76]; decide) ?_
 simp only [vsAll, boxA, boxZ, opA, dstOk, nilSliceOp, argFr, Nat.reduceAdd, Nat.reduceLT, eq_self, wtAll, Try.ntmps76]
 refine vs_draw 25 (by decide +kernel) ?_
 simp only [vsAll, binA, binLitA, intA, loadA, loadRow, partA, partOk, fieldAddrA, lenA, nilCheckA, opA, dstOk, argFr, Nat.reduceLT, Nat.reduceLeDiff, Nat.reduceEqDiff, Int.reduceEq, ↓reduceIte, reduceCtorEq, eq_self, ne_eq, wtAll, e]
 refine ⟨by simp only [InR_i64]; omega, by simp only [InR_i64]; omega, qcall _ ⟨trivial, by simp only [vsAll, okAll, opsA, opA, Nat.reduceEqDiff, ↓reduceIte, eq_self], rise_tri t _ H (by omega)⟩ ?_⟩
 simp only [vsAll, binA, binLitA, intA, loadA, loadRow, partA, partOk, fieldAddrA, indexAddrA, nilCheckA, opA, dstOk, resA, argFr, retA.eq_1, Nat.reduceLT, Nat.reduceEqDiff, ↓reduceIte, reduceCtorEq, eq_self, wtAll, Try.results76, dr]
 simp only [InR_i64]
 omega

def sumN (l : List Int) : Int := (l.map (max 0 ·)).sum
theorem sumN_snoc (l : List Int) (x : Int) : sumN (l ++ [x]) = sumN l + max 0 x := by simp [sumN]

end Go.Proofs.Ytclkjifgipcamaa.Wl
end
section
set_option linter.unusedVariables false
set_option linter.unusedSimpArgs false
set_option maxHeartbeats 4000000
set_option maxRecDepth 100000
namespace Go.Proofs.Ytclkjifgipcamaa.Wl
open Go.V
theorem und153q : Program.underlying Try.prog 153 = some (.map 160 3) := by kernel_rfl
theorem key160q : Maps.Keyed Try.prog 160 := Maps.Keyed.of_law (deep_law_laid (by kernel_rfl) (m := 10) (by decide) (by decide +kernel) (by kernel_rfl) (by kernel_rfl))
abbrev surV (t s : Int) : Value := .agg #[.int .i64 t, .int .i64 s]
/-- What is kept: the water under surfaces. -/
def memoF (h : Hd) : Value → Value → Prop := fun k v => ∃ t s : Int, k = surV t s ∧ (-2 ≤ t ∧ t ≤ 2) ∧ (-1000 ≤ s ∧ s ≤ 1000) ∧ v = .int .i64 (vol h s t)

theorem surK (t s : Int) (ht : -2 ≤ t ∧ t ≤ 2) (hs : -1000 ≤ s ∧ s ≤ 1000) : ∃ l, keyOf Try.prog 160 (surV t s) = some l := by
 have := keyOf_ints (P := Try.prog) (k := 160) (d := 5) (n := 2) (by kernel_rfl) (by decide +kernel) (by kernel_rfl) (by kernel_rfl) (l := [t, s]) rfl (by kernel_rfl) (by
  intro x hx
  simp only [List.mem_cons, List.not_mem_nil, or_false] at hx
  rcases hx with rfl | rfl
  ·exact wf_i64 (by simp only [InR_i64]; omega)
  ·exact wf_i64 (by simp only [InR_i64]; omega))
 exact this

/-- The depths below a surface, as far as they are above 0, come to the water. -/
def drsN (h : Hd) (s t : Int) (n : Nat) : List Int := (List.range n).map fun p : Nat => dr h s t p
theorem drsN_succ (h : Hd) (s t : Int) (n : Nat) : drsN h s t (n + 1) = drsN h s t n ++ [dr h s t n] := by simp [drsN, List.range_succ]
theorem sum_drs (h : Hd) (s t : Int) (n : Nat) : sumN (drsN h s t n) = volN h s t n := by
 induction n with
 | zero => rfl
 | succ n ih => rw [drsN_succ, sumN_snoc, ih]; rfl

theorem drsN_len (h : Hd) (s t : Int) (n : Nat) : (drsN h s t n).length = n := by simp [drsN]
theorem dr_bound (h : Hd) (s t : Int) (p : Nat) (k : HOk h) (hp : p < h.n) (hs : -1000 ≤ s ∧ s ≤ 1000) (ht : -2 ≤ t ∧ t ≤ 2) : -2000 ≤ dr h s t p ∧ dr h s t p ≤ 2000 := by
 have hf := k.f p hp
 have hn := k.n
 have hm := mul_small t ((p : Int) - (h.n : Int) / 2) ht (by omega)
 simp only [dr, Int.toNat_natCast]
 omega

theorem sum_row_tri (l : List Int) (id : Nat) (H : Hp) (ho : H id = some (.row 1 l.length (intF l))) (hl : l.length ≤ 100) (hx : ∀ x ∈ l, x ≤ 10000) : PTri Try.prog (fnA 129) [.sl id 1 l.length] H (i64 (sumN l)) := by
 have hb : ∀ i, i ≤ l.length → 0 ≤ sumN (l.take i) ∧ sumN (l.take i) ≤ 10000 * i := by
  intro i hi
  induction i with
  | zero => simp [sumN]
  | succ i ih =>
    have := ih (by omega)
    have h2 := hx _ (mem_getD l i 0 (by omega))
    rw [take_snoc l i 0 (by omega), sumN_snoc]
    omega
 refine tri_v0 (fun _ => false) Try.func129 (by kernel_rfl) rfl (by simp only [List.length_append, List.length_cons, List.length_nil, Try.ntmps129]; decide) ?_
 simp only [vsAll, lenA, opA, dstOk, nilSliceOp, argFr, Nat.reduceLT, ↓reduceIte, reduceCtorEq, eq_self, wtAll, Try.ntmps129]
 refine vs_loop (σ := Nat) (fun i => i ≤ l.length) (fun i => [(2, i64 (sumN (l.take i))), (5, .sl id 1 l.length), (6, i64 l.length), (7, i64 i)]) (fun _ => H) (fun i => l.length - i) 0 (Nat.zero_le _) ?_ ?_ fun i hi => ?_
 ·simp only [vsAll, Nat.reduceEqDiff, ↓reduceIte, eq_self, Int.natCast_zero, sumN, List.sum_nil]
 ·simp only [HSub_refl]
 ·simp only [vsAll, binA, binLitA, intA, opA, dstOk, Nat.reduceLT, Nat.reduceEqDiff, ↓reduceIte, eq_self]
  refine condD (fun hd => ?_) (fun hd => ?_)
  ·simp only [vsAll, binA, binLitA, intA, loadA, loadRow, partA, partOk, indexAddrA, mmA, okAll, stAll, opsA, opA, dstOk, nilSliceOp, Nat.reduceLT, Nat.reduceEqDiff, ↓reduceIte, eq_self, wtAll, intF_at, ho]
   have h1 := hb i hi
   have h2 := hb (i + 1) (by omega)
   have h3 := hx _ (mem_getD l i 0 (by omega))
   have e := sumN_snoc (l.take i) (l.getD i 0)
   rw [← take_snoc l i 0 (by omega)] at e
   simp only [InR_i64]
   refine ⟨by omega, by omega, by omega, by omega, loop_next (i + 1) (by omega) (by omega) ?_ ?_⟩
   ·simp only [vsAll, Nat.reduceEqDiff, ↓reduceIte, eq_self, e, Int.natCast_add, Int.natCast_one]
   ·simp only [HSub_refl]
  ·have e : i = l.length := by omega
   subst e
   simp only [vsAll, opA, dstOk, nilSliceOp, resA, retA.eq_1, Nat.reduceLT, Nat.reduceEqDiff, ↓reduceIte, eq_self, Try.results129, List.take_length]

theorem water_tri (h : Hd) (id : Nat) (s t : Int) (H : Hp) (k : HOk h) (ho : H id = some (.memo (memoF h))) (hs : -1000 ≤ s ∧ s ≤ 1000) (ht : -2 ≤ t ∧ t ≤ 2) :
  PTri Try.prog (fnA 113) [hdP h id, .agg [i64 t, i64 s]] H (i64 (vol h s t)) := by
 have hn := k.n
 refine Tri.unpack ho fun es ck hes hpw => ?_
 obtain ⟨o, hfo, hst, hcase⟩ := found_of und153q key160q (surK t s ht hs) (fun e he => by
  obtain ⟨t', s', h1, h2, h3, _⟩ := hes e he
  rw [h1]; exact surK t' s' h2 h3) hpw
 have hback : Go.V.HSub (H.set id (.raw (.map es ck))) H := HSub_set' ho (memo_le hes hpw)
 refine tri_vs (m := mset [7]) Try.func113 (by kernel_rfl) rfl (by simp only [List.length_append, List.length_cons, List.length_nil, Try.ntmps113]; decide) ?_
 simp only [vsAll, boxA, boxZ, opA, dstOk, nilSliceOp, argFr, Nat.reduceAdd, Nat.reduceLT, Nat.reduceBEq, eq_self, wtAll, Try.ntmps113]
 refine vs_draw 11 (by decide +kernel) ?_
 simp only [vsAll, loadA, loadRow, partA, partOk, fieldAddrA, extractA, nilCheckA, opA, lookA, dstOk, argFr, Nat.reduceAdd, Nat.reduceLT, Nat.reduceEqDiff, ↓reduceIte, reduceCtorEq, eq_self, wtAll, mapZ153q]
 refine ⟨o, hfo _, ?_⟩
 rcases hcase with ⟨rfl, hno⟩ | ⟨j, e, rfl, hj, hk⟩
 ·simp only [vsAll, loadA, loadRow, partA, partOk, fieldAddrA, lenA, nilCheckA, opA, dstOk, nilA, argFr, Nat.reduceLT, Nat.reduceBEq, ↓reduceIte, reduceCtorEq, eq_self, wtAll]
  intro id2 hid2
  have hne : id2 ≠ id := fun e => by rw [if_pos e] at hid2; cases hid2
  rw [if_neg hne] at hid2
  refine vs_loop (σ := Nat) (fun i => i ≤ h.n) (fun i => [(0, hdP h id), (3, .rptr 1 2 (fun _ => [i64 t, i64 s]) 0 0), (7, .sl id2 1 (drsN h s t i).length), (24, flAV h.n h.fl), (25, i64 h.n), (26, i64 i)])
   (fun i => (H.set id (.raw (.map es ck))).set id2 (.row 1 (drsN h s t i).length (intF (drsN h s t i)))) (fun i => h.n - i) 0 (Nat.zero_le _) ?_ ?_ fun i hi => ?_
  ·simp only [vsAll, argFr, Nat.reduceEqDiff, ↓reduceIte, reduceCtorEq, eq_self, Int.natCast_zero, drsN, List.range_zero]
  ·exact HSub_set (row0_le _ _ _)
  ·simp only [vsAll, binA, binLitA, intA, opA, dstOk, Nat.reduceLT, Nat.reduceEqDiff, ↓reduceIte, reduceCtorEq, eq_self]
   refine condD (fun hd => ?_) (fun hd => ?_)
   ·simp only [vsAll, loadA, loadRow, partA, partOk, okAll, stAll, opsA, opA, dstOk, nilSliceOp, Nat.reduceLT, Nat.reduceEqDiff, Nat.reduceBEq, ↓reduceIte, reduceCtorEq, eq_self, wtAll]
    refine callK_pure (depth_tri h id s t i _ k (by omega) hs ht) ?_
    have hlen := drsN_len h s t i
    simp only [vsAll, binA, binLitA, intA, cellA, cellsA, okParts, buildSliceA, partIdx, elemsA, lensA, partsA, partsOk, opA, appendA, dstOk, nilSliceOp, Nat.reduceMul, Nat.reduceLT, Nat.reduceLeDiff, Nat.reduceEqDiff, Nat.reduceBEq, ↓reduceIte, reduceCtorEq, eq_self, wtAll]
    rw [app_ints _ (dr h s t i) _ rfl]
    refine ⟨fun j hj => ?_, by omega, by omega, by simp only [InR_i64]; omega, loop_next (i + 1) (by omega) (by omega) ?_ ?_⟩
    ·have : j = 0 := by omega
     subst this
     simp only [vsAll, cellA, okCells, eq_self]
    ·simp only [vsAll, Nat.reduceEqDiff, ↓reduceIte, reduceCtorEq, eq_self, drsN_succ, List.length_append, Int.natCast_add, Int.natCast_one]
    ·simp only [vsAll, drsN_succ, List.length_append, Hp.set_set]
   ·have ei : i = h.n := by omega
    subst ei
    simp only [vsAll, ↓reduceIte, eq_self]
    refine vs_draw 7 (by decide +kernel) ?_
    have hlen := drsN_len h s t h.n
    simp only [vsAll, loadA, loadRow, partA, partOk, fieldAddrA, nilCheckA, opA, dstOk, Nat.reduceLT, Nat.reduceEqDiff, ↓reduceIte, reduceCtorEq, eq_self, wtAll]
    refine qcall _ ⟨trivial, by simp only [vsAll, okAll, opsA, opA, ↓reduceIte, eq_self], sum_row_tri (drsN h s t h.n) id2 _ (Hp.set_same _ _ _) (by omega) (fun x hx => ?_)⟩ ?_
    ·simp only [drsN, List.mem_map, List.mem_range] at hx
     obtain ⟨p, hp, rfl⟩ := hx
     have := dr_bound h s t p k hp hs ht
     omega
    ·rw [sum_drs]
     have hne' : ¬ id = id2 := fun e => hne e.symm
     simp only [vsAll, opA, mapUpA, dstOk, Nat.reduceEqDiff, ↓reduceIte, eq_self, hne']
     refine ⟨none, ⟨hfo _, hst, fun i v e => by cases e⟩, ?_⟩
     have hes2 : ∀ x ∈ (updM es (surV t s) (.int .i64 (vol h s t)) ck none).toList, memoF h x.key x.val := fun x hx => by
      simp only [updM, Array.toList_push, List.mem_append, List.mem_singleton] at hx
      rcases hx with hx | rfl
      ·exact hes x hx
      ·exact ⟨t, s, rfl, ht, hs, rfl⟩
     have hpw2 : (updM es (surV t s) (.int .i64 (vol h s t)) ck none).toList.Pairwise fun x y => x.key ≠ y.key := by
      simp only [updM, Array.toList_push]
      refine List.pairwise_append.2 ⟨hpw, List.pairwise_singleton _ _, fun x hx y hy => ?_⟩
      rw [List.mem_singleton] at hy
      subst hy
      exact hno x hx
     have hin : ∃ x ∈ (updM es (surV t s) (.int .i64 (vol h s t)) ck none).toList, x.key = surV t s := ⟨⟨surV t s, .int .i64 (vol h s t), ck⟩, by simp [updM], rfl⟩
     have e1 : (Value.int IntKind.i64 (volN h s t h.n)) = .int .i64 (vol h s t) := rfl
     rw [e1]
     generalize updM es (surV t s) (.int .i64 (vol h s t)) ck none = es2 at hes2 hpw2 hin
     generalize updC ck none = ck2
     obtain ⟨o2, hfo2, -, hcase2⟩ := found_of und153q key160q (surK t s ht hs) (fun e he => by
      obtain ⟨t', s', h1, h2, h3, _⟩ := hes2 e he
      rw [h1]; exact surK t' s' h2 h3) hpw2
     refine vs_draw 7 (by decide +kernel) ?_
     simp only [vsAll, loadA, loadRow, partA, partOk, fieldAddrA, nilCheckA, opA, lookA, dstOk, Nat.reduceLT, Nat.reduceEqDiff, ↓reduceIte, reduceCtorEq, eq_self, wtAll, mapZ153q]
     refine ⟨o2, hfo2 _, ?_⟩
     rcases hcase2 with ⟨rfl, hno2⟩ | ⟨j, e, rfl, hj, hk⟩
     ·obtain ⟨x, hx, hxk⟩ := hin
      exact absurd hxk (hno2 x hx)
     ·obtain ⟨t', s', h1, h2, h3, h4⟩ := hes2 e (by
       have := Array.getElem?_eq_some_iff.1 hj
       obtain ⟨hl, rfl⟩ := this
       simp)
      have e2 : e.val = .int .i64 (vol h s t) := by
       rw [hk] at h1
       simp only [surV, Value.agg.injEq, Array.mk.injEq, List.cons.injEq, Value.int.injEq, true_and, and_true] at h1
       rw [h4, ← h1.1, ← h1.2]
      simp only [vsAll, e2]
      refine ret0 ?_
      simp only [vsAll, resA, retA.eq_1, ↓reduceIte, eq_self, Try.results113]
      refine dropR_pure rfl ?_
      intro i x hi
      by_cases e5 : i = id
      ·subst e5
       rw [ho] at hi; cases hi
       exact ⟨_, Hp.set_same _ _ _, memo_le hes2 hpw2⟩
      ·by_cases e6 : i = id2
       ·subst e6; rw [hid2] at hi; cases hi
       ·exact ⟨x, by rw [Hp.set_ne _ _ e5, Hp.set_ne _ _ e6, Hp.set_ne _ _ e5]; exact hi, .refl _⟩
 ·obtain ⟨t', s', h1, h2, h3, h4⟩ := hes e (by
   have := Array.getElem?_eq_some_iff.1 hj
   obtain ⟨hl, rfl⟩ := this
   simp)
  have e2 : e.val = .int .i64 (vol h s t) := by
   rw [hk] at h1
   simp only [surV, Value.agg.injEq, Array.mk.injEq, List.cons.injEq, Value.int.injEq, true_and, and_true] at h1
   rw [h4, ← h1.1, ← h1.2]
  simp only [vsAll, opA, dstOk, nilSliceOp, Nat.reduceLT, Nat.reduceEqDiff, Nat.reduceBEq, ↓reduceIte, eq_self, e2]
  refine ret0 ?_
  simp only [vsAll, resA, retA.eq_1, ↓reduceIte, eq_self, Try.results113]
  exact dropR_pure rfl hback

end Go.Proofs.Ytclkjifgipcamaa.Wl
end
section
set_option linter.unusedVariables false
set_option linter.unusedSimpArgs false
set_option maxHeartbeats 4000000
set_option maxRecDepth 100000
namespace Go.Proofs.Ytclkjifgipcamaa.Wl
open Go.V
theorem stand_tri (h : Hd) (id : Nat) (w t : Int) (H : Hp) (k : HOk h) (ho : H id = some (.memo (memoF h))) (hw : 0 ≤ w ∧ w ≤ 100) (ht : -2 ≤ t ∧ t ≤ 2) :
  PTri Try.prog (fnA 77) [hdP h id, i64 w, i64 t] H (.agg [i64 t, i64 (hz h w t)]) := by
 refine tri_vs (m := fun _ => false) Try.func77 (by kernel_rfl) rfl (by simp only [List.length_append, List.length_cons, List.length_nil, Try.ntmps77]; decide) ?_
 simp only [vsAll, opA, allocA, dstOk, nilSliceOp, Nat.reduceAdd, Nat.reduceLT, Int.reduceNeg, eq_self, wtAll, Try.ntmps77]
 intro id2 hid2
 have hne : id2 ≠ id := fun e => by rw [e, ho] at hid2; cases hid2
 have hne' : ¬ id = id2 := fun e => hne e.symm
 refine vs_loop (σ := Int × Int) (fun x => -20 ≤ x.1 ∧ x.1 < x.2 ∧ x.2 ≤ 120 ∧ vol h x.1 t ≤ w ∧ w < vol h x.2 t) (fun x => [(0, hdP h id), (1, i64 w), (2, i64 t), (6, .ref id2 0 2 0 0), (7, i64 x.1), (8, i64 x.2)])
  (fun _ => H.set id2 (.box 2 1 fun _ => [i64 0, i64 0])) (fun x => (x.2 - x.1).toNat) (-20, 120) ?_ ?_ ?_ fun x hx => ?_
 ·have h1 := vol_low h (-20) t k ht (by omega)
  have h2 := vol_big h 120 t k ht (by omega)
  exact ⟨by show (-20 : Int) ≤ -20; omega, by show (-20 : Int) < 120; omega, by show (120 : Int) ≤ 120; omega, by show vol h (-20) t ≤ w; omega, by show w < vol h 120 t; omega⟩
 ·simp only [vsAll, argFr, Nat.reduceEqDiff, Int.reduceNeg, ↓reduceIte, reduceCtorEq, eq_self]
 ·simp only [vsAll]
 ·obtain ⟨lo, hi⟩ := x
  obtain ⟨h1, h2, h3, h4, h5⟩ := hx
  simp only at h1 h2 h3 h4 h5
  simp only [vsAll, binA, binLitA, intA, opA, dstOk, Nat.reduceLT, Nat.reduceEqDiff, Int.reduceNeg, ↓reduceIte, reduceCtorEq, eq_self]
  refine ⟨by simp only [InR_i64]; omega, condD (fun hb => ?_) (fun hb => ?_)⟩
  ·have hb2 : (lo + hi) / 2 ^ 1 = (lo + hi) / 2 := rfl
   simp only [vsAll, binA, binLitA, intA, cellA, cellsA, fillA, okParts, okAll, stAll, opsA, partsA, partsOk, opA, dstOk, nilSliceOp, Nat.reduceAdd, Nat.reduceLT, Nat.reduceLeDiff, Nat.reduceEqDiff, Int.reduceNeg, Int.reduceLE, Int.reduceLT, Int.reduceToNat, ↓reduceIte, reduceCtorEq, eq_self, wtAll, hb2]
   refine ⟨by simp only [InR_i64]; omega, rfl, callK_pure (water_tri h id ((lo + hi) / 2) t _ k (by rw [Hp.set_ne _ _ hne']; exact ho) (by omega) ht) ?_⟩
   simp only [vsAll, binA, binLitA, intA, opA, dstOk, Nat.reduceLT, Nat.reduceEqDiff, Int.reduceNeg, ↓reduceIte, reduceCtorEq, eq_self]
   refine condD (fun hc => ?_) (fun hc => ?_)
   ·simp only [vsAll, opA, dstOk, nilSliceOp, Nat.reduceLT, Nat.reduceEqDiff, Int.reduceNeg, ↓reduceIte, eq_self]
    refine loop_next ((lo + hi) / 2, hi) ⟨?_, ?_, h3, hc, h5⟩ ?_ ?_ ?_
    ·show -20 ≤ (lo + hi) / 2; omega
    ·show (lo + hi) / 2 < hi; omega
    ·show (hi - (lo + hi) / 2).toNat < (hi - lo).toNat; omega
    ·simp only [vsAll, Nat.reduceEqDiff, ↓reduceIte, reduceCtorEq, eq_self]
    ·simp only [HSub_refl]
   ·simp only [vsAll, opA, dstOk, nilSliceOp, Nat.reduceLT, Nat.reduceEqDiff, Int.reduceNeg, ↓reduceIte, eq_self]
    refine loop_next (lo, (lo + hi) / 2) ⟨h1, ?_, ?_, h4, Int.not_le.1 hc⟩ ?_ ?_ ?_
    ·show lo < (lo + hi) / 2; omega
    ·show (lo + hi) / 2 ≤ 120; omega
    ·show ((lo + hi) / 2 - lo).toNat < (hi - lo).toNat; omega
    ·simp only [vsAll, Nat.reduceEqDiff, ↓reduceIte, reduceCtorEq, eq_self]
    ·simp only [HSub_refl]
  ·have e : hi = lo + 1 := by omega
   subst e
   have e2 := hz_unique h w t lo k ht hw h4 h5
   simp only [vsAll, cellA, cellsA, fillA, okParts, partsA, partsOk, opA, newCells, okCells, storeObj, dstOk, Nat.reduceAdd, Nat.reduceLT, Nat.reduceLeDiff, Nat.reduceEqDiff, Int.reduceNeg, ↓reduceIte, reduceCtorEq, eq_self, wtAll]
   refine ret0 ?_
   simp only [vsAll, loadA, loadRow, partA, partOk, resA, retA.eq_1, Nat.reduceLT, Nat.reduceEqDiff, ↓reduceIte, reduceCtorEq, eq_self, wtAll, Try.results77, Hp.set_set]
   rw [← e2]
   exact dropR_pure rfl (HSub_drop hid2)

theorem isPart_tri (h : Hd) (id : Nat) (p : Int) (H : Hp) (k : Near h) : PTri Try.prog (fnA 30) [hdP h id, i64 p] H (boo (partB h p)) := by
 have := k.n
 refine tri_v0 (fun _ => false) Try.func30 (by kernel_rfl) rfl (by simp only [List.length_append, List.length_cons, List.length_nil, Try.ntmps30]; decide) ?_
 simp only [vsAll, binA, binLitA, intA, loadA, loadRow, partA, partOk, fieldAddrA, lenA, nilCheckA, okAll, stAll, opsA, opA, dstOk, nilSliceOp, argFr, Nat.reduceLT, Nat.reduceEqDiff, ↓reduceIte, reduceCtorEq, eq_self, wtAll, Try.ntmps30]
 refine ⟨by simp only [InR_i64]; omega, callK_pure (within_tri p 0 ((h.n : Int) - 1) H) ?_⟩
 simp only [vsAll, opA, dstOk, nilSliceOp, resA, retA.eq_1, Nat.reduceLT, ↓reduceIte, eq_self, Try.results30, partB]

theorem isList_tri (w : Int) (H : Hp) : PTri Try.prog (fnA 29) [i64 w] H (boo (tiltB w)) := by
 refine tri_v0 (fun _ => false) Try.func29 (by kernel_rfl) rfl (by simp only [List.length_append, List.length_cons, List.length_nil, Try.ntmps29]; decide) ?_
 simp only [vsAll, okAll, stAll, opsA, opA, dstOk, nilSliceOp, argFr, Nat.reduceLT, Int.reduceNeg, ↓reduceIte, reduceCtorEq, eq_self, Try.ntmps29]
 refine callK_pure (within_tri w (-2) 2 H) ?_
 simp only [vsAll, opA, dstOk, nilSliceOp, resA, retA.eq_1, Nat.reduceLT, Int.reduceNeg, ↓reduceIte, eq_self, Try.results29, tiltB]

theorem every_tri (h : Hd) (id : Nat) (H : Hp) (k : HOk h) : PTri Try.prog (fnA 84) [hdP h id] H (u64 ((2 ^ h.m - 1 : Nat) : Int)) := by
 have hm := k.m
 have h1 : 2 ^ h.m ≤ 2 ^ 6 := Nat.pow_le_pow_right (by omega) hm
 have h0 : 0 < 2 ^ h.m := Nat.pos_of_ne_zero (by simp)
 refine tri_v0 (fun _ => false) Try.func84 (by kernel_rfl) rfl (by simp only [List.length_append, List.length_cons, List.length_nil, Try.ntmps84]; decide) ?_
 simp only [vsAll, binA, binLitA, intA, loadA, loadRow, partA, partOk, fieldAddrA, lenA, nilCheckA, opA, dstOk, nilSliceOp, resA, argFr, retA.eq_1, Nat.reduceLT, ↓reduceIte, reduceCtorEq, eq_self, wtAll, Try.ntmps84, Try.results84, Int.one_mul]
 have e : (2 : Int) ^ h.m = ((2 ^ h.m : Nat) : Int) := by simp
 rw [e]
 have e2 : ((2 ^ h.m : Nat) : Int) - 1 = ((2 ^ h.m - 1 : Nat) : Int) := by omega
 refine ⟨⟨by omega, by omega, by simp only [InR_u64]; omega⟩, by simp only [InR_u64]; omega, by rw [e2]⟩

theorem wdeep_tri (h : Hd) (id : Nat) (w t p : Int) (H : Hp) (k : HOk h) (ho : H id = some (.memo (memoF h))) (hw : 0 ≤ w ∧ w ≤ 100) (ht : -2 ≤ t ∧ t ≤ 2) (hp : 0 ≤ p ∧ p < h.n) :
  PTri Try.prog (fnA 31) [hdP h id, i64 w, i64 t, i64 p] H (i64 (dz h w t p)) := by
 have hz1 := hz_spec h w t k ht hw
 refine tri_v0 (fun _ => false) Try.func31 (by kernel_rfl) rfl (by simp only [List.length_append, List.length_cons, List.length_nil, Try.ntmps31]; decide) ?_
 simp only [vsAll, okAll, stAll, opsA, opA, dstOk, nilSliceOp, argFr, Nat.reduceLT, Nat.reduceEqDiff, ↓reduceIte, reduceCtorEq, eq_self, Try.ntmps31]
 refine callK_pure (stand_tri h id w t H k ho hw ht) ?_
 simp only [vsAll, okAll, stAll, opsA, opA, dstOk, argFr, Nat.reduceLT, Nat.reduceEqDiff, ↓reduceIte, eq_self]
 refine callK_pure (depth_tri h id (hz h w t) t p H k hp (by omega) ht) ?_
 simp only [vsAll, mmA, okAll, stAll, opsA, opA, dstOk, nilSliceOp, resA, retA.eq_1, Nat.reduceLT, ↓reduceIte, eq_self, Try.results31, dz, uz_dr]

end Go.Proofs.Ytclkjifgipcamaa.Wl
end
section
set_option linter.unusedVariables false
set_option linter.unusedSimpArgs false
set_option maxHeartbeats 4000000
set_option maxRecDepth 100000
namespace Go.Proofs.Ytclkjifgipcamaa.Wl
open Go.V
def amF (a : Nat → Bool) : Nat → List AV := fun i => [boo (a i)]
abbrev amAV (a : Nat → Bool) : AV := .arr 101 1 (amF a)
theorem amF_at (a : Nat → Bool) (i : Nat) : amF a i = [boo (a i)] := rfl

theorem wall_tri (H : Hp) : PTri Try.prog (fnA 116) [] H (amAV fun _ => true) := by
 refine tri_vs (m := fun _ => false) Try.func116 (by kernel_rfl) rfl (by simp only [List.length_append, List.length_nil, Try.ntmps116]; decide) ?_
 simp only [vsAll, opA, allocA, dstOk, Nat.reduceLT, eq_self, wtAll, Try.ntmps116]
 intro id hid
 refine vs_loop (σ := Nat) (fun i => i ≤ 101) (fun i => [(0, .ref id 0 1 0 0), (2, i64 i)]) (fun i => H.set id (.box 1 101 (amF fun j => decide (j < i)))) (fun i => 101 - i) 0 (by omega) ?_ ?_ fun i hi => ?_
 ·simp only [vsAll, ↓reduceIte, reduceCtorEq, eq_self, Int.natCast_zero]
 ·refine HSub_set (box_ext fun j hj => ?_)
  simp [amF]
 ·simp only [vsAll, binA, binLitA, intA, opA, dstOk, Nat.reduceLT, ↓reduceIte, reduceCtorEq, eq_self]
  refine condD (fun hd => ?_) (fun hd => ?_)
  ·simp only [vsAll, binA, binLitA, intA, indexAddrA, cellA, cellsA, opA, newCells, okCells, storeObj, dstOk, nilSliceOp, Nat.reduceLT, Nat.reduceEqDiff, ↓reduceIte, reduceCtorEq, eq_self, wtAll, amF_at]
   refine ⟨by omega, by omega, by simp only [InR_i64]; omega, loop_next (i + 1) (by omega) (by omega) ?_ ?_⟩
   ·simp only [vsAll, ↓reduceIte, reduceCtorEq, eq_self, Int.natCast_add, Int.natCast_one]
   ·rw [Hp.set_set]
    refine HSub_set (box_ext fun j hj => ?_)
    rw [updF_at (by omega) hj]
    simp only [amF]
    split
    ·rename_i e; subst e; simp
    ·congr 3
     exact propext ⟨fun _ => by omega, fun _ => by omega⟩
  ·have e : i = 101 := by omega
   subst e
   simp only [vsAll, loadA, loadRow, cellA, opA, okCells, storeObj, dstOk, Nat.reduceMul, Nat.reduceLT, ↓reduceIte, reduceCtorEq, implies_true, eq_self, wtAll, amF_at]
   rw [Hp.set_set]
   refine ret_of [(0, .ref id 0 1 0 0)] (H.set id (.box 1 101 (amF fun _ => true))) ?_ (HSub_set (box_ext fun j hj => ?_)) ?_
   ·simp only [vsAll, ↓reduceIte, reduceCtorEq, eq_self]
   ·simp [amF, hj]
   ·simp only [vsAll, loadA, loadRow, resA, retA.eq_1, ↓reduceIte, eq_self, wtAll, Try.results116]
    exact dropR_pure rfl (HSub_drop hid)

def someB (a : Nat → Bool) : Bool := (List.range 101).any a
theorem some_tri (a : Nat → Bool) (H : Hp) : PTri Try.prog (fnA 85) [amAV a] H (boo (someB a)) := by
 refine tri_v0 (fun _ => false) Try.func85 (by kernel_rfl) rfl (by simp only [List.length_append, List.length_cons, List.length_nil, Try.ntmps85]; decide) ?_
 simp only [vsAll, loadA, loadRow, boxA, boxZ, opA, dstOk, nilSliceOp, argFr, Nat.reduceLT, Nat.reduceEqDiff, ↓reduceIte, eq_self, wtAll, Try.ntmps85]
 refine vs_loop (σ := Nat) (fun i => i ≤ 101 ∧ ∀ j, j < i → a j = false) (fun i => [(5, amAV a), (6, i64 i)]) (fun i => H) (fun i => 101 - i) 0 ⟨by omega, fun j hj => absurd hj (by omega)⟩ ?_ ?_ fun i hi => ?_
 ·simp only [vsAll, Nat.reduceEqDiff, ↓reduceIte, eq_self, Int.natCast_zero]
 ·simp only [HSub_refl]
 ·obtain ⟨hi, hall⟩ := hi
  simp only [vsAll, binA, binLitA, intA, opA, dstOk, Nat.reduceLT, Nat.reduceEqDiff, ↓reduceIte, eq_self]
  refine condD (fun hd => ?_) (fun hd => ?_)
  ·simp only [vsAll, partA, indexA, opA, dstOk, nilSliceOp, Nat.reduceLT, Nat.reduceEqDiff, ↓reduceIte, eq_self, wtAll, amF_at]
   refine ⟨by omega, condV (fun hc => ?_) (fun hc => ?_)⟩
   ·have : someB a = true := by
     simp only [someB, List.any_eq_true, List.mem_range]
     exact ⟨i, by omega, hc⟩
    simp only [vsAll, opA, dstOk, nilSliceOp, resA, retA.eq_1, Nat.reduceLT, ↓reduceIte, eq_self, Try.results85, this]
   ·simp only [vsAll, binA, binLitA, intA, opA, dstOk, Nat.reduceLT, Nat.reduceEqDiff, ↓reduceIte, eq_self]
    refine ⟨by simp only [InR_i64]; omega, loop_next (i + 1) ⟨by omega, fun j hj => ?_⟩ (by omega) ?_ ?_⟩
    ·by_cases e : j = i
     ·subst e; exact hc
     ·exact hall j (by omega)
    ·simp only [vsAll, Nat.reduceEqDiff, ↓reduceIte, eq_self, Int.natCast_add, Int.natCast_one]
    ·simp only [HSub_refl]
  ·have : someB a = false := by
    simp only [someB, List.any_eq_false, List.mem_range, Bool.not_eq_true]
    exact fun j hj => hall j (by omega)
   simp only [vsAll, opA, dstOk, nilSliceOp, resA, retA.eq_1, Nat.reduceLT, ↓reduceIte, eq_self, Try.results85, this]

theorem listed_tri (h : Hd) (id : Nat) (s : Sd) (t w : Int) (H : Hp) (k : HOk h) (ho : H id = some (.memo (memoF h))) (hw : 0 ≤ w ∧ w ≤ 100) (ht : -2 ≤ t ∧ t ≤ 2) (hp : 0 ≤ s.w ∧ s.w < h.n) :
  PTri Try.prog (fnA 172) [.agg (s.cs ++ [i64 t]), hdP h id, i64 w] H (boo (rightB h s w t)) := by
 refine tri_v0 (fun _ => false) Try.func172 (by kernel_rfl) rfl (by simp only [List.length_append, List.length_cons, List.length_nil, Try.ntmps172]; decide) ?_
 simp only [vsAll, boxA, boxZ, opA, dstOk, nilSliceOp, argFr, Nat.reduceAdd, Nat.reduceLT, eq_self, wtAll, Try.ntmps172]
 refine vs_draw 36 (by decide +kernel) ?_
 simp only [vsAll, loadA, loadRow, partA, partOk, fieldAddrA, opA, dstOk, Nat.reduceAdd, Nat.reduceLT, Nat.reduceEqDiff, ↓reduceIte, eq_self, wtAll]
 refine qcall _ ⟨trivial, by simp only [vsAll, okAll, opsA, opA, Nat.reduceEqDiff, ↓reduceIte, eq_self], within_tri t s.a s.b H⟩ ?_
 simp only [vsAll, loadA, loadRow, partA, partOk, fieldAddrA, opA, guardV, dstOk, argFr, Nat.reduceLT, Nat.reduceEqDiff, ↓reduceIte, implies_true, eq_self, wtAll]
 refine qgcall _ (fun hg => ⟨trivial, by simp only [vsAll, okAll, opsA, opA, Nat.reduceEqDiff, ↓reduceIte, eq_self, hg], wdeep_tri h id w t s.w H k ho hw ht hp⟩) ?_
 simp only [vsAll, loadA, loadRow, partA, partOk, fieldAddrA, opA, guardV, dstOk, Nat.reduceAdd, Nat.reduceLT, Nat.reduceEqDiff, ↓reduceIte, implies_true, eq_self, wtAll]
 refine qgcall _ (fun hg => ⟨trivial, by simp only [vsAll, okAll, opsA, opA, Nat.reduceEqDiff, ↓reduceIte, eq_self, hg], within_tri (dz h w t s.w) s.c s.d H⟩) ?_
 simp only [vsAll, pickA, opA, dstOk, resA, retA.eq_1, Nat.reduceLT, Nat.reduceEqDiff, ↓reduceIte, implies_true, eq_self, Try.results172, rightB]

/-- Some list is right. -/
theorem any_iff (h : Hd) (s : Sd) (w : Int) (hl : -2 ≤ s.a ∧ s.a ≤ s.b ∧ s.b ≤ 2) : anyN h s w 5 = true ↔ ∃ t, s.a ≤ t ∧ t ≤ s.b ∧ rightB h s w t = true := by
 simp only [anyN, List.any_eq_true, List.mem_range]
 constructor
 ·rintro ⟨j, hj, hr⟩
  refine ⟨(j : Int) - 2, ?_, ?_, hr⟩ <;> simp only [rightB, Bool.and_eq_true, decide_eq_true_eq] at hr <;> omega
 ·rintro ⟨t, h1, h2, hr⟩
  refine ⟨(t + 2).toNat, by omega, ?_⟩
  have e : (((t + 2).toNat : Nat) : Int) - 2 = t := by omega
  rw [e]; exact hr

theorem sounded_tri (h : Hd) (id : Nat) (s : Sd) (w : Int) (H : Hp) (k : HOk h) (ho : H id = some (.memo (memoF h))) (hw : 0 ≤ w ∧ w ≤ 100) (hp : 0 ≤ s.w ∧ s.w < h.n) (hl : -2 ≤ s.a ∧ s.a ≤ s.b ∧ s.b ≤ 2) :
  PTri Try.prog (fnA 171) [.agg s.cs, hdP h id, i64 w] H (boo (anyN h s w 5)) := by
 refine tri_v0 (fun _ => false) Try.func171 (by kernel_rfl) rfl (by simp only [List.length_append, List.length_cons, List.length_nil, Try.ntmps171]; decide) ?_
 simp only [vsAll, loadA, loadRow, partA, partOk, fieldAddrA, boxA, boxZ, opA, dstOk, nilSliceOp, argFr, Nat.reduceAdd, Nat.reduceLT, Nat.reduceEqDiff, ↓reduceIte, eq_self, wtAll, Try.ntmps171]
 refine vs_loop (σ := Int) (fun l => s.a ≤ l ∧ l ≤ s.b + 1 ∧ ∀ t, s.a ≤ t → t < l → rightB h s w t = false) (fun l => [(1, hdP h id), (2, i64 w), (3, .rptr 1 5 (fun _ => s.cs) 0 0), (7, i64 l)]) (fun _ => H) (fun l => (10 - l).toNat) s.a ⟨by omega, by omega, fun t h1 h2 => absurd h2 (by omega)⟩ ?_ ?_ fun l hll => ?_
 ·simp only [vsAll, argFr, Nat.reduceEqDiff, ↓reduceIte, eq_self]
 ·simp only [HSub_refl]
 ·obtain ⟨h1, h2, hall⟩ := hll
  simp only [vsAll, binA, binLitA, intA, loadA, loadRow, partA, partOk, fieldAddrA, opA, dstOk, Nat.reduceAdd, Nat.reduceLT, Nat.reduceEqDiff, ↓reduceIte, eq_self, wtAll]
  refine condD (fun hd => ?_) (fun hd => ?_)
  ·simp only [vsAll, loadA, loadRow, partA, partOk, cellA, cellsA, fillA, okParts, okAll, stAll, opsA, partsA, partsOk, opA, dstOk, Nat.reduceAdd, Nat.reduceLT, Nat.reduceLeDiff, Nat.reduceEqDiff, ↓reduceIte, eq_self, wtAll]
   refine callK_pure (listed_tri h id s l w H k ho hw (by omega) hp) ?_
   simp only [vsAll, opA, ↓reduceIte, eq_self]
   refine condV (fun hc => ?_) (fun hc => ?_)
   ·have : anyN h s w 5 = true := (any_iff h s w hl).2 ⟨l, h1, hd, hc⟩
    simp only [vsAll, opA, dstOk, nilSliceOp, resA, retA.eq_1, Nat.reduceLT, ↓reduceIte, eq_self, Try.results171, this]
   ·simp only [vsAll, binA, binLitA, intA, opA, dstOk, nilSliceOp, Nat.reduceLT, Nat.reduceEqDiff, ↓reduceIte, eq_self]
    refine ⟨by simp only [InR_i64]; omega, loop_next (l + 1) ⟨by omega, by omega, fun t h3 h4 => ?_⟩ (by omega) ?_ ?_⟩
    ·by_cases e : t = l
     ·subst e; exact hc
     ·exact hall t h3 (by omega)
    ·simp only [vsAll, Nat.reduceEqDiff, ↓reduceIte, eq_self]
    ·simp only [HSub_refl]
  ·have : anyN h s w 5 = false := by
    rw [← Bool.not_eq_true, any_iff h s w hl]
    rintro ⟨t, h3, h4, h5⟩
    rw [hall t h3 (by omega)] at h5; cases h5
   simp only [vsAll, opA, dstOk, nilSliceOp, resA, retA.eq_1, Nat.reduceLT, ↓reduceIte, eq_self, Try.results171, this]

/-- Those of some amounts of which something is so. -/
theorem left_tri (h : Hd) (id T : Nat) (recv : AV) (a q : Nat → Bool) (H : Hp) (k : HOk h) (ho : H id = some (.memo (memoF h)))
  (hq : ∀ (H' : Hp) (w : Nat), H' id = some (.memo (memoF h)) → w < 101 → PTri Try.prog (.func (.method "caulkworks/well.is") [.iface T recv] []) [hdP h id, i64 w] H' (boo (q w))) :
  PTri Try.prog (fnA 117) [amAV a, hdP h id, .iface T recv] H (amAV fun w => a w && q w) := by
 refine tri_vs (m := fun _ => false) Try.func117 (by kernel_rfl) rfl (by simp only [List.length_append, List.length_cons, List.length_nil, Try.ntmps117]; decide) ?_
 simp only [vsAll, loadA, loadRow, nilCheckA, boxA, boxZ, okAll, stAll, opsA, opA, allocA, storeObj, dstOk, nilSliceOp, argFr, Nat.reduceMul, Nat.reduceLT, Nat.reduceEqDiff, ↓reduceIte, eq_self, wtAll, Try.ntmps117]
 intro i6 h6 i8 h8
 have n6 : i6 ≠ id := fun e => by rw [e, ho] at h6; cases h6
 have n86 : i8 ≠ i6 := fun e => by rw [if_pos e] at h8; cases h8
 rw [if_neg n86] at h8
 have n8 : i8 ≠ id := fun e => by rw [e, ho] at h8; cases h8
 have m6 : ¬ id = i6 := fun e => n6 e.symm
 have m8 : ¬ id = i8 := fun e => n8 e.symm
 have m86 : ¬ i6 = i8 := fun e => n86 e.symm
 refine ⟨fun j hj => by simp [amF, okCells, cellA], ?_⟩
 refine vs_loop (σ := Nat) (fun i => i ≤ 101) (fun i => [(1, hdP h id), (6, .ref i6 0 1 0 0), (7, .func (.method "caulkworks/well.is") [.iface T recv] []), (8, .ref i8 0 1 0 0), (14, i64 i)])
  (fun i => (H.set i6 (.box 1 101 fun _ => [boo false])).set i8 (.box 1 101 (amF fun j => if j < i then a j && q j else a j))) (fun i => 101 - i) 0 (by omega) ?_ ?_ fun i hi => ?_
 ·simp only [vsAll, argFr, Nat.reduceEqDiff, ↓reduceIte, eq_self, Int.natCast_zero]
 ·rw [Hp.set_set]
  refine HSub_set (box_ext fun j hj => ?_)
  simp [amF]
 ·simp only [vsAll, binA, binLitA, intA, opA, dstOk, Nat.reduceLT, Nat.reduceEqDiff, ↓reduceIte, eq_self]
  refine condD (fun hd => ?_) (fun hd => ?_)
  ·simp only [vsAll, loadA, loadRow, partA, partOk, indexAddrA, opA, guardV, dstOk, nilSliceOp, Nat.reduceLT, Nat.reduceEqDiff, ↓reduceIte, implies_true, eq_self, wtAll, amF_at]
   refine ⟨by omega, by omega, ?_⟩
   apply gcall
   ·intro hg
    exact ⟨by simp only [vsAll, opA, Nat.reduceEqDiff, ↓reduceIte, eq_self, hg], by simp only [vsAll, okAll, opsA, opA, Nat.reduceEqDiff, ↓reduceIte, eq_self, hg], hq _ i (by rw [Hp.set_ne _ _ m8, Hp.set_ne _ _ m6]; exact ho) (by omega)⟩
   ·simp only [vsAll, binA, binLitA, intA, indexAddrA, cellA, cellsA, pickA, opA, newCells, okCells, storeObj, dstOk, Nat.reduceLT, Nat.reduceEqDiff, ↓reduceIte, implies_true, eq_self, wtAll, amF_at]
    refine ⟨by omega, by omega, by simp only [InR_i64]; omega, loop_next (i + 1) (by omega) (by omega) ?_ ?_⟩
    ·simp only [vsAll, Nat.reduceEqDiff, ↓reduceIte, eq_self, Int.natCast_add, Int.natCast_one]
    ·rw [Hp.set_set]
     refine HSub_set (box_ext fun j hj => ?_)
     rw [updF_at (by omega) hj]
     simp only [amF]
     by_cases e : j = i
     ·subst e
      rw [if_pos rfl, if_pos (by omega)]
     ·rw [if_neg e]
      by_cases e2 : j < i
      ·rw [if_pos e2, if_pos (by omega)]
      ·rw [if_neg e2, if_neg (by omega)]
  ·have e : i = 101 := by omega
   subst e
   simp only [vsAll, loadA, loadRow, cellA, opA, okCells, storeObj, dstOk, Nat.reduceMul, Nat.reduceLT, Nat.reduceEqDiff, ↓reduceIte, implies_true, eq_self, wtAll, amF_at, m86]
   refine ret_of [(6, .ref i6 0 1 0 0)] (H.set i6 (.box 1 101 (amF fun w => a w && q w))) ?_ ?_ ?_
   ·simp only [vsAll, Nat.reduceEqDiff, ↓reduceIte, eq_self]
   ·intro i x hi
    by_cases e : i = i6
    ·subst e
     rw [Hp.set_same] at hi ⊢
     cases hi
     refine ⟨_, rfl, box_ext fun j hj => ?_⟩
     simp only [amF, if_pos hj]
    ·rw [Hp.set_ne _ _ e] at hi ⊢
     by_cases e8 : i = i8
     ·subst e8; rw [h8] at hi; cases hi
     ·exact ⟨x, by rw [Hp.set_ne _ _ e8, Hp.set_ne _ _ e]; exact hi, .refl _⟩
   ·simp only [vsAll, loadA, loadRow, resA, retA.eq_1, ↓reduceIte, eq_self, wtAll, Try.results117]
    exact dropR_pure rfl (HSub_drop h6)

end Go.Proofs.Ytclkjifgipcamaa.Wl
end
