/- The value machine, part 21: names for bundles of rules. -/
import Derived.Test.YtciapcamhocmcaaVm22
import Derived.Test.YtciapcamhocmcaaVm23
import Derived.Test.YtciapcamhocmcaaVm24
import Derived.Test.YtciapcamhocmcaaVm26
set_option linter.unusedSimpArgs false
set_option linter.unusedVariables false
set_option linter.defProp false
namespace Go.Vm
open Go

def zE := (And.intro (@get_mk) (And.intro (@look_cons) (And.intro (@look_nil) (And.intro (@set_none) (And.intro (@ev_tmp) (And.intro (@ev_const) (And.intro (@ev_func) (And.intro (@dst_some) (And.intro (@dst_none) (And.intro (@List.append_nil.{0}) (And.intro (@List.nil_append.{0}) (And.intro (@List.cons_append.{0}) (And.intro (@true_and) (And.intro (@and_true) (And.intro (@and_self) (And.intro (@imp_self) (And.intro (@Bool.false_eq_true) (And.intro (@false_implies) (And.intro (@cond_true.{1}) (And.intro (@cond_false.{1}) (And.intro (@decide_eq_true_eq) (And.intro (@eq_self_iff_true.{1}) (And.intro (@exists_eq_left'.{1}) (And.intro (@Option.some.injEq.{0}) (And.intro (@not_false_eq_true) (And.intro (@not_true_eq_false) (@ne_eq.{1})))))))))))))))))))))))))))
def zS := (And.intro (@settle_int) (And.intro (@settle_bool) (And.intro (@settle_str) (And.intro (@settle_nsl) (And.intro (@settle_sl) (And.intro (@settle_ref) (And.intro (@settle_sub) (And.intro (@settle_ptr) (And.intro (@settle_pv) (And.intro (@settle_tup) (And.intro (@settle_fn) (And.intro (@settle_npt) (And.intro (@settle_agg) (And.intro (@settleL_nil) (And.intro (@settleL_nsl) (And.intro (@settleL_int) (And.intro (@settleL_bool) (And.intro (@settleL_str) (And.intro (@settleL_sl) (And.intro (@settleL_ref) (And.intro (@List.length_nil.{0}) (And.intro (@List.length_cons.{0}) (And.intro (@List.length_append.{0}) (And.intro (@Nat.zero_add) (And.intro (@Nat.add_zero) (@List.cons_append.{0}))))))))))))))))))))))))))
def zN := (And.intro (@Nat.zero_lt_one) (And.intro (@Nat.lt_add_one) (And.intro (@Nat.zero_add) (And.intro (@Nat.add_zero) (And.intro (@Nat.le_refl) (@Nat.zero_lt_succ))))))
def zL := (And.intro (@List.getElem?_toArray.{0}) (And.intro (@List.getElem?_cons_succ.{0}) (And.intro (@List.getElem?_cons_zero.{0}) (And.intro (@List.getD_cons_zero.{0}) (And.intro (@List.getD_cons_succ.{0}) (And.intro (@List.length_cons.{0}) (And.intro (@List.length_nil.{0}) (And.intro (@List.drop_zero.{0}) (And.intro (@List.drop_succ_cons.{0}) (And.intro (@List.headD_cons.{0}) (And.intro (@List.take_succ_cons.{0}) (And.intro (@List.take_zero.{0}) (And.intro (@List.take_nil.{0}) (And.intro (@List.drop_nil.{0}) (And.intro (@List.map_cons.{0,0}) (And.intro (@List.map_nil.{0,0}) (And.intro (@Option.bind_some.{0,0}) (And.intro (@Option.isSome_some.{0}) (@Option.map_some.{0,0})))))))))))))))))))
def zO := (And.intro (@Bool.or_false) (And.intro (@Bool.false_or) (And.intro (@Bool.or_true) (And.intro (@Bool.true_or) (And.intro (@Bool.not_true) (And.intro (@Bool.not_false) (And.intro (@Bool.and_false) (And.intro (@Bool.and_true) (And.intro (@Bool.false_and) (And.intro (@Bool.true_and) (And.intro (@decide_true) (And.intro (@decide_false) (And.intro (@Bool.or_self) (@Bool.and_self))))))))))))))
def zJ := (And.intro (@join_ff) (And.intro (@join_ft) (And.intro (@join_fv) (And.intro (@join_d) (And.intro (@join_s) (And.intro (@fillK_join0) (And.intro (@List.isEmpty_nil.{0}) (And.intro (@List.isEmpty_cons.{0}) (And.intro (@fillK_join) (And.intro (@List.not_mem_nil.{0}) (And.intro (@List.nodup_nil.{0}) (And.intro (@List.mem_singleton.{0}) (And.intro (@List.nodup_cons.{0}) (And.intro (@beq_self_eq_true.{0}) (And.intro (@Bool.cond_true.{1}) (And.intro (@Bool.cond_false.{1}) (And.intro (@List.all_cons.{0}) (And.intro (@List.all_nil.{0}) (And.intro (@List.set_cons_zero.{0}) (@List.set_cons_succ.{0}))))))))))))))))))))
def zP := (And.intro (@Bool.cond_true_right) (And.intro (@Bool.cond_true_left) (And.intro (@Bool.cond_false_right) (@Bool.cond_false_left))))
def zG := (And.intro (@List.getElem?_toArray.{0}) (And.intro (@List.getElem?_cons_succ.{0}) (And.intro (@List.getElem?_cons_zero.{0}) (@Option.bind_some.{0,0}))))
def zV := (And.intro (@get_mk) (And.intro (@look_cons) (And.intro (@cond_true.{1}) (And.intro (@cond_false.{1}) (And.intro (@Bool.and_false) (And.intro (@Bool.false_and) (And.intro (@Bool.not_true) (And.intro (@Bool.not_false) (And.intro (@List.getElem?_toArray.{0}) (And.intro (@List.getElem?_cons_succ.{0}) (And.intro (@List.getElem?_cons_zero.{0}) (@Option.bind_some.{0,0}))))))))))))
def zC := (And.intro (@decide_eq_true_eq) (And.intro (@decide_eq_false_iff_not) (And.intro (@Bool.and_eq_true) (And.intro (@Bool.or_eq_true) (And.intro (@Bool.not_eq_true') (And.intro (@Bool.not_eq_false') (And.intro (@Bool.and_eq_false_imp) (And.intro (@Bool.or_eq_false_iff) (And.intro (@Int.not_lt) (And.intro (@Int.not_le) (And.intro (@Bool.true_eq_false) (And.intro (@Bool.false_eq_true) (And.intro (@imp_false) (@Classical.not_imp))))))))))))))
def zM := (And.intro (@List.map_cons.{0,0}) (And.intro (@List.map_nil.{0,0}) (And.intro (@List.append_nil.{0}) (And.intro (@List.filterMap_nil.{0,0}) (And.intro (@List.mem_cons.{0}) (And.intro (@List.not_mem_nil.{0}) (And.intro (@or_false) (And.intro (@forall_eq_or_imp.{1}) (And.intro (@forall_eq.{1}) (@false_implies))))))))))
def zW := (And.intro (@get_mk) (And.intro (@look_cons) (And.intro (@look_nil) (And.intro (@set_none) (And.intro (@ev_tmp) (And.intro (@ev_const) (@ev_func)))))))
def zY := (And.intro (@List.append_nil.{0}) (And.intro (@List.cons_append.{0}) (And.intro (@List.nil_append.{0}) (And.intro (@List.length_nil.{0}) (And.intro (@List.length_cons.{0}) (And.intro (@Nat.zero_add) (And.intro (@Nat.not_lt_zero) (And.intro (@if_false.{1}) (@Nat.sub_zero)))))))))
theorem rng0 : List.range 0 = [] := rfl
theorem rng1 : List.range 1 = [0] := rfl
theorem rng2 : List.range 2 = [0, 1] := rfl
theorem rng3 : List.range 3 = [0, 1, 2] := rfl
theorem rng4 : List.range 4 = [0, 1, 2, 3] := rfl
theorem flat_mix : (Kd.flat != Kd.mix) = true := rfl
theorem deep_mix : (Kd.deep != Kd.mix) = true := rfl

end Go.Vm
