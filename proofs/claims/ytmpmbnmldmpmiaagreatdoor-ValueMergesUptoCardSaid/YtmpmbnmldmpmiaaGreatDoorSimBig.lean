/- The rewriting step, for long rows. -/
import Derived.Test.YtmpmbnmldmpmiaaGreatDoorSimTy
set_option linter.unusedVariables false
set_option linter.unusedSimpArgs false
set_option maxRecDepth 100000
namespace Go.Proofs.YtmpmbnmldmpmiaaGreatDoor.Sim
open Go Go.RowKit
/-- Rows in an order of one's own, a call first. -/
def EvOC (P : Program) (n : Nat) (ops : Array Oper) (l : List Oper) (b : Bs) (F : Fm) (S : St) (K : Bs → Fm → Prop) : Prop := EvO P n ops l b F S K
section
variable {P : Program} {n : Nat} {ops : Array Oper} {o : Oper} {r : List Oper} {b : Bs} {F : Fm} {S : St} {K : Bs → Fm → Prop}
theorem EvO_nil : EvO P n ops [] b F S K = K b F := rfl
theorem EvO_cons : EvO P n ops (o :: r) b F S K = (match wantF ops F o with
    | some true => match o.op with
      | .call ⟨.value _, _, _⟩ => EvOC P n ops (o :: r) b F S K
      | _ => match opX P (whole b.v) (evF F) o S with
        | some (v, .no) => EvO P n ops r b (putF F o.dst v) S K
        | _ => False
    | some false => EvO P n ops r b (putF F o.dst undefV) S K
    | none => False) := by
  obtain ⟨dst, op, ty, pos, aft, gd⟩ := o
  cases hw : wantF ops F ⟨dst, op, ty, pos, aft, gd⟩ with
  | none => simp only [EvO, hw]
  | some z =>
    cases z with
    | false => simp only [EvO, hw]
    | true =>
      cases op with
      | call c =>
        obtain ⟨callee, args, ats⟩ := c
        cases callee with
        | value f => rfl
        | builtin b => simp only [EvO, hw] <;> rfl
        | invoke r m => simp only [EvO, hw] <;> rfl
      | _ => simp only [EvO, hw] <;> rfl
theorem EvOC.call {f : Operand} {args : Array Operand} {ats : Array TypeId} {fid : FuncId} {first captured : List V} {QQ : Bs → V → Prop} (hw : wantF ops F o = some true) (hop : o.op = .call ⟨.value f, args, ats⟩) (hc : calleeX (evF F f) = some (fid, first, captured))
    (h : CallB P b S fid (first ++ args.toList.map (evF F) ++ captured) QQ) (k : ∀ b' v, QQ b' v → EvO P n ops r b' (putF F o.dst v) S K) : EvOC P n ops (o :: r) b F S K := by
  obtain ⟨dst, op, ty, pos, aft, gd⟩ := o
  simp only at hop
  subst hop
  unfold EvOC
  rw [EvO]
  simp only [hw]
  exact ⟨fid, first, captured, QQ, hc, h, k⟩
end
theorem evhL {p q : Prop} (k : q) (h : p = q := by (conv => lhs; simp (config := {maxSteps := 10000000}) only [ad1, ad2, ad3, ad4, ad5, ad6, ad7, ad8, ad9, ad10, ad11, ad12, ad13, ad14, ad15, ad16, ad17, ad18, ad19, ad20, ad21, ad22, ad23, ad24, ad25, ad26, ad27, ad28, ad29, ad30, ad31, ad32, ad33, ad34, ad35, ad36, ad37, ad38, ad39, ad40, ad41, ad42, ad43, ad44, ad45, ad46, ad47, ad48, ad49, ad50, ad51, ad52, ad53, ad54, ad55, ad56, ad57, ad58, ad59, ad60, ad61, ad62, ad63, ad64, ad65, ad66, ad67, ad68, ad69, ad70, ad71, ad72, ad73, ad74, ad75, ad76, ad77, ad78, ad79, lt_off, le_off, ne_off, ne_off', gt_off, newsX_off, ext2_0, ext2_1, ext3_0, ext3_1, ext3_2, opAt, callOne_self, calleeX_s, calleeX_fn, EvL, EvB, EvO_nil, EvO_cons, FinB, gF, gS, gH, gB, gV, gVs, wantF, EvD, runSolo, runQuiet, runMix, StepK, visX, newsX, newAll, visY, keptY, leftY, seenV, seenA, chkY, farY, bit, List.filter_cons, List.filter_nil, Option.isSome_some, Option.isSome_none, Nat.add_left_cancel_iff, Nat.add_eq_left, Nat.add_le_add_iff_left, Nat.add_lt_add_iff_left, Nat.left_eq_add, Nat.testBit, Nat.reduceShiftRight, Nat.reduceAnd, Nat.reduceBneDiff, Nat.reduceBeqDiff, Nat.le_add_right, Nat.lt_add_right_iff_pos, add_le_self, add_lt_self, List.drop_nil, appendW, appendI, srcX_slc, srcX_empty, putX, Int.toNat_zero, Int.toNat_natCast, Int.le_refl, Nat.lt_add_one, Nat.lt_irrefl, List.length_map, List.map_append, List.take_succ_cons, List.take_zero, List.drop_succ_cons, List.drop_zero, List.zip_cons_cons, List.zip_nil_left, List.zip_nil_right, List.nil_append, List.append_nil, List.drop_nil, List.take_nil, List.cons_append, Nat.zero_mul, Nat.mul_zero, Nat.mul_one, Nat.one_mul, Nat.sub_self, Nat.sub_zero, Nat.le_refl, true_and, and_true, opX, builtinX, unitX, evF_tmp, evF_const, evF_func, evF_global, putF_none, run_no, run_new, run_put, run_eat, mkRow, extractX, mkTup, Nat.min_self, Nat.min_def, cv_int, cv_bool, cv_float, cv_string, cv_slice, cv_pointer, cv_sagg, cv_agg, cv_ptr, cv_slc, cv_slu, cv_map, cv_fn, cv_ifc, set_nil, set_zero, set_succ, rowL, aggAt, find_cons, find_nil, upd_cons, upd_nil, del_cons, del_nil, beq_eq, ble_eq, blt_dec, lower_eq, putF_some, one, oneCell, sliceWith, fillX, buildWith, Option.map_some, Option.map_none, Option.bind_some, Option.bind_none, List.map_cons, List.map_nil, List.toList_toArray, List.all_cons, List.all_nil, List.length_cons, List.length_nil, Nat.reduceEqDiff, Nat.reduceAdd, Nat.reduceMul, Nat.reduceLeDiff, Nat.reduceLT, Int.reduceBEq, Int.reduceBNe, Int.reduceLT, Int.reduceLE, Int.reduceEq, Int.reduceToNat, Int.reduceNeg, if_true, if_false, ite_true, ite_false, reduceIte, cond_true, cond_false, Bool.and_true, Bool.true_and, Bool.false_and, Bool.and_false, Bool.or_true, Bool.or_false, Bool.true_or, Bool.false_or, Bool.not_true, Bool.not_false, beq_self_eq_true, Nat.beq_refl, List.getElem?_toArray, List.getElem?_cons_succ, List.getElem?_cons_zero, List.getElem?_nil, decide_true, decide_false, decide_eq_true_eq, eq_self_iff_true, reduceCtorEq, Option.getD_some, argF, lits, mkAgg, Nat.zero_add, Nat.add_zero, nilCheckX, Fz.ok, beq_true, beq_false, al129, al27, al31, al55, al62, al69, al75, al79, ap24_24, ap25_25, ap69_69, ap77_77, ap77_9, len24, lex24, len25, lex25, len69, lex69, len77, lex77, len9, max3, min3, bo_add_3, bo_eql_22, bo_eql_23, bo_eql_3, bo_eql_4, bo_eql_5, bo_eql_86, bo_eql_9, bo_geq_23, bo_geq_3, bo_geq_5, bo_gtr_22, bo_gtr_23, bo_gtr_3, bo_gtr_9, bo_leq_23, bo_leq_3, bo_leq_9, bo_lss_116, bo_lss_22, bo_lss_23, bo_lss_3, bo_lss_5, bo_lss_9, bo_neq_121, bo_neq_22, bo_neq_23, bo_neq_3, bo_neq_5, bo_neq_9, bo_sub_116, bo_sub_3, bo_sub_86, info137, size137, zero137, pl137, bd137, info27, size27, zero27, pl27, bd27, info31, size31, zero31, pl31, bd31, info55, size55, zero55, pl55, bd55, info62, size62, zero62, pl62, bd62, info75, size75, zero75, info9, size9, zero9, bs24_1, bs25_0, bs25_1, info3, size3, zero3, bs69_1, info5, size5, zero5, bs77_1, bs77_2, bs77_6, cv2_23, cv22_23, cv3_116, cv3_23, cv5_3, cv86_2, fa27_0, fb27_0, fa27_1, fb27_1, fa27_2, fb27_2, fa27_3, fb27_3, fa27_4, fb27_4, fa31_0, fb31_0, fa31_1, fb31_1, fa55_0, fb55_0, fa55_1, fb55_1, fa62_0, fb62_0, fa62_1, fb62_1, fa79_1, fb79_1, ia24, ib24, ia25, ib25, ia69, ib69, ip75, ld129, lb129, ld22, lb22, ld23, lb23, ld24, lb24, ld25, lb25, ld27, lb27, ld3, lb3, ld31, lb31, ld4, lb4, ld55, lb55, ld69, lb69, ld77, lb77, ld9, lb9, mi69, mj69, ms24, ms25, ms69, st129, st24, st25, st27, st3, st31, st55, st62, st69, st75, st77, un_not, rs3, rs4, rs5, rs6, rs7, rs8, rs9, rs10, rs11, rs12, rs13, rs14, rs15, rs16, rs17, rs18, rs19, rs20, rs21, rs22, rs23, rs24, rs25, rs26, rs27, rs28, rs29, rs30, rs31, rs32, rs33, rs34, rs35, rs36, rs37, rs38, rs39, rs40, rs41, rs42, rs43, rs44, rs45, rs46, rs47, rs48, rs49, rs50, rs51, rs52, rs53, rs54, rs55, rs56, rs57, rs58, rs59, rs60, rs61, rs62, rs63, rs64, rs65, rs66, rs67, rs68, rs69, rs70, rs71, rs72, rs73, rs74, rs75, rs76, rs77, rs78, rs79, rs80, rs81, rs82, rs83, rs84, rs85, rs86, rs87, rs88, rs89, rs90, rs91, rs92, rs93, rs94, rs95, rs96, rs97, rs98, rs99, rs100, rs101, rs102, rs103, rs104, rs105, rs106, rs107, rs108, rs109, rs110, rs111, rs112, rs113, rs114, rs115, rs116, rs117, rs118, rs119, rs120, rs121, rs122, @Tryz.underlying3, @Tryz.underlying5, @Tryz.underlying9, @Tryz.underlying24, @Tryz.underlying25, @Tryz.underlying27, @Tryz.underlying31, @Tryz.underlying55, @Tryz.underlying62, @Tryz.underlying69, @Tryz.underlying75, @Tryz.underlying77, @Tryz.underlying119, @Tryz.underlying137, *])) : p := by rw [h]; exact k
end Go.Proofs.YtmpmbnmldmpmiaaGreatDoor.Sim
