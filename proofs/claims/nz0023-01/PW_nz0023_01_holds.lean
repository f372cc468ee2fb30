import PyProof.Rows.All
import PyProof.FactsAll.tuple_2
import PyProof.AutoSeq1
import PyProof.CollectIter
import PyProof.DictTruth
import PyProof.DictIter
import PyProof.TupleKey
import PyProof.DictWalks
import PyProof.EqKinds
import PyProof.P3In
import PyProof.SetKind
import PyProof.Rows.TupAdd
import PyProof.Rows.SetFrom
import Open.Line
import Open.Boot
import Open.TreeImp
import KE.KDictLaws
import KE.KSortTup
import Wide.FinOn
import Wide.All
import Lean
import PySem.Challenge.RW_nz0023_01
open PySem PySem.W PyProof.Rows PySem.Spec
set_option Elab.async false
set_option maxRecDepth 100000
set_option linter.all false
set_option tactic.hygienic false
set_option genSizeOf false
set_option bootstrap.genMatcherCode false
set_option compiler.extract_closed false
namespace M.Tactic
open _root_.PySem renaming Value -> aa, Str -> ac, Shared -> ae, wpAny -> af, wpAny_bind -> ah, Addr -> ak, model -> am, Heap -> ao, wpAny_pure -> av, World -> aE, Program -> aG, Pos -> aJ, Around -> bm, SetTable -> bn, Env -> bH, Scope -> cD, sizeLine_eq -> cQ, wpAny_mono -> cZ, Obj -> de, rawInt -> dO, cLine -> dR, wpAny_holding -> dS, Sem -> d8, cellsFrom -> eI, NameKind -> fu, sizeLine -> fv, pyIter -> fz, starEach -> fK, Stmt -> fZ, backTo -> gD, Builtin -> gX, wpAny_newObj_type -> gZ, pyNext -> g7, mainGlobals -> ij, assignEach -> ip, holding -> iR, pushCells -> kh, relabel -> km, Arguments -> lk, treeTable -> ll, intKind -> lr, spliced -> lu, stored -> lz, Flow -> lE, Operator -> mO, compareOp -> mR, valueAt -> mW, wpAny_standAt -> m7, wpAny_call_entry -> nq, codeAny_builtin -> nr, assignInOrder -> oJ, typeOf -> oL, binaryOp -> qO, exec -> qS, bindL -> qT, bindC -> qU, wpAny_eqBool_int -> qV, plainId_quiet -> qX, hashByValue -> qZ, ofAClassStatement -> q8, wpAny_setField -> q9, constantsAlone -> tx, foldedForSure -> tz, Params -> tA, builtinsNs -> tE, newList -> tF, wpAny_truthy_bool -> tI, standAt -> tJ, getMethod -> tK, pushCells_keeps -> tL, swapsWith -> tO, merged -> tQ, richCompare -> tS, wpAny_isInstance -> tW, wpAny_typeOf -> tZ, seqItems? -> t9, wpAny_ite_split -> ua, Keyword -> w7, sysModules -> xa, ReadsAll -> xb, concat_meets -> xd, typeLookup_type -> xe, builtinLookup_eq_fast -> xf, seqIndex? -> xg, intKind_is -> xh, wpAny_assign_Name -> xl, call_meets -> xm, letOwnedTupleGo -> xn, wpAny_load -> xo, FuncData -> xp, callWith -> xq, wpAny_of_eq -> xt, closureFor -> xu, codeAny -> xx, bindName -> xy, swappedStores -> xz, wpAny_rule -> xA, wpAny_newList -> xD, collect -> xE, isSubtype_type -> xJ, wpAny_attempt -> xM, wpAny_callSpecial?_slot -> xN, wpAny_fieldsOf -> xO, firstArgMember -> xQ, noFill_tuple_add -> CH, seq_tuple_add -> CI, subscripted -> CN, slot_list_getitem -> CQ, newFunctionEnv -> CX, wpAny_execs_nil -> CZ, wpAny_richCompare_same_room -> C7, wpAny_eqBool_str -> C8, checkCount -> Df, wpAny_runValue -> Dg, wpAny_specialOf -> Di, IsTupleKey -> Dm, searchCouldBeSeen -> Dn, wpAny_askSetting -> Dt, slot_dict_getitem -> P6, wpAny_assign_Tuple -> Qd, getMethod_builtin -> Qw, wpAny_pyIter_list -> Qz, wpAny_pyIter_enum -> QA, wpAny_comprehension_free -> QG, wpAny_tupleItemsOf -> QL, codeAny_extend_loopS -> QS, wpAny_setState_of -> Q1, wpAny_pyIter_slot -> Q8, wpAny_setEntries_of -> Ra, wpAny_setEpoch_of -> Rb
open _root_.Option.some renaming inj -> aC, injEq -> d9
open _root_.List renaming mem_cons_self -> aL, length_map -> aM, mem_singleton -> aN, mem_cons -> aP, mem_cons_of_mem -> aQ, mem_of_getElem? -> aT, mem_append_left -> aV, mem_append -> aW, mem_append_right -> be, mem_map -> bg, getElem?_eq_some_iff -> bG, all_eq_true -> bJ, range -> bQ, getElem?_eq_getElem -> bR, nodup_append -> bX, map_cons -> cA, getElem?_map -> cM, length_append -> dg, nodup_cons -> dh, map_append -> eJ, lookup_cons -> eT, range' -> eV, getElem?_cons_zero -> eW, getElem?_cons_succ -> fC, replicate -> fJ, append_assoc -> fL, not_mem_nil -> gb, map_nil -> gE, getElem?_append_left -> gY, eq_nil_of_length_eq_zero -> ik, append_nil -> im, length_cons -> iT, forIn_cons -> js, mem_iff_getElem? -> ju, getElem?_set_self -> kf, nil_append -> kg, cons_append -> kj, map_set -> kq, getElem?_append_right -> mP, getElem?_eq_none -> mQ, length_drop -> mX, length_set -> mZ, nodup_nil -> m8, length_reverse -> m9, zip_cons_cons -> nc, pairwise_cons -> ng, mem_range -> nh, getD_eq_getElem?_getD -> ni, map_map -> nv, set_set -> nA, map_congr_left -> oM, reverse_cons -> oO, ext_getElem? -> oX, mem_or_eq_of_mem_set -> oY, getElem?_set -> oZ, mem_range'_1 -> o0, size_toArray -> qM, length_take -> qP, getElem?_set_ne -> qQ, length_range -> qR, forall_mem_cons -> rd, any_cons -> tG, take_of_length_le -> tH, forIn_nil -> tN, getElem?_take -> tP, filter_cons -> tR, length -> t0, take_append_drop -> ub, map -> ue, getD -> ug, set_cons_succ -> uh, filter_eq_nil_iff -> ui, getElem?_replicate -> xr, length_nil -> xC, filter_eq_self -> xR, map_inj_right -> xS, mem_of_mem_drop -> xT, range_eq_range' -> xU, set_cons_zero -> xV, drop_eq_nil_of_le -> CR, of_mem_zip -> C2, getElem_mem -> C5, pairwise_map -> C6, getElem?_drop -> Dr, length_filter_le -> Dy, getElem?_eq_none_iff -> Dz, set -> DA, all_map -> DC, map_drop -> DE, range'_zero -> DH, range'_succ -> DI, filterMap_cons -> DJ, find?_cons_of_neg -> P4, take_nil -> P7, findIdx?_cons -> Qc, findIdx?_eq_some_iff_getElem -> Qe, eraseIdx_cons_succ -> Qg, getElem?_range -> Qv, mem_filter -> QC, length_replicate -> QD, drop_eq_getElem_cons -> QE, drop_length -> QF, length_eraseIdx_of_lt -> Q7, contains_iff_mem -> Rh, getElem?_inj -> Rj, map_take -> Rm, mem_of_mem_erase -> Ro, take_append_of_le_length -> Rp, isEmpty_iff -> Rs
open _root_.Bool renaming noConfusion -> aY, and_eq_true_iff -> bk, false_eq_true -> cu, and_eq_true -> eU, not_true -> gf, or_eq_false_iff -> jr, not_false -> jt, eq_false_iff -> lq, or_eq_true_iff -> oE, or_eq_true -> xv, false_or -> CU, not_eq_true' -> C3, true_and -> P2, false_ne_true -> Q3
open _root_.Nat renaming le_refl -> bq, ble -> bx, ne_of_lt -> cB, lt_of_lt_of_le -> cH, lt_of_le_of_lt -> cL, le_trans -> cY, zero_le -> dZ, le_of_ble_eq_true -> eG, lt_irrefl -> eR, le_succ -> io, add_le_add_left -> jq, le_of_eq -> j3, le_add_right -> j4, le_of_lt -> j5, lt_succ_of_lt -> j6, lt_succ_self -> j7, add_le_add_right -> mH, sub_le -> mI, succ_le_succ -> mK, add_assoc -> mL, add_lt_add_left -> oB, min_eq_left -> oC, not_lt -> qL, le_of_lt_succ -> tm, succ_pos -> tn, mod_lt -> to, add_comm -> tq, sub_add_cancel -> tu, le_of_not_lt -> tv, le_of_succ_le -> tM, lt_of_lt_of_eq -> uf, lt_succ_of_le -> wY, add_lt_add_right -> wZ, le_total -> w5, min_eq_right -> w6, ne_of_gt -> xj, succ_lt_succ -> xk, not_succ_le_self -> xw, add_le_add -> Cu, lt_of_le_of_ne -> Cv, sub_lt -> Cw, add_sub_of_le -> Cy, le_antisymm -> Cz, succ_add -> CC, not_lt_zero -> CV, le_succ_of_le -> CY, add_right_comm -> DB, min_le_right -> PF, min_le_left -> PH, sub_le_sub_right -> PJ, mul_le_mul_left -> PK, add_sub_cancel_left -> PN, lt_of_succ_lt_succ -> Qh, succ_ne_self -> QB, not_lt_of_le -> QI, eq_or_lt_of_le -> QX
open _root_.PySem.Heap renaming get?_push_of_some -> br, get?_push_size -> cz, lt_size -> dT, size_push -> gc, get?_none_of_le -> g0, SameBut -> oH, get?_update_ne -> oU, size_update -> tY, get?_update_self -> uc, get?_push_ne -> QN
open _root_.PySem.W renaming isStarred -> bO, hashAt -> dG, boot_heap -> iQ, kas_sort -> iS, boot_drawn -> tB, boot_toks -> tC, kat_cons -> tT, kat_yes -> tU, kat_no -> tV, SharedT -> w9, WRecords -> xW
open _root_.PyProof.Rows renaming seqObj -> cC, IsTup -> oF, tail_any -> oG, listUpdate_at -> oP, get?_update_seq -> oQ, size_push' -> qW, recsOf -> re, sortedHeap -> tX, tuples' -> xB, subscriptTail -> CO, Subscript_ -> CS, isTrue_and -> CT, seqEpoch_at -> C9, kind_sorted -> Db, plain_sorted -> Dc, entry_sorted -> Dd, args_sorted1 -> De, slot_tuple_getitem -> P5
open _root_.Option renaming map_some -> dN, map -> kn, map_eq_some_iff -> oD, isSome_iff_exists -> oK, getD_some -> xi, map_none -> P8, getD_none -> P9, bind_some -> Rq, isNone_iff_eq_none -> Rt
open _root_.PySem.SetTable renaming below -> eL, insertAt -> gj, bits -> qY, has -> xL, slot -> Dj, fits -> Dp, Probe -> QU, runEnd -> QV, Met -> QY, fill -> Q4
open _root_.PySem.Obj renaming mapSeq -> eS, data_mapFields -> nz, mapFields -> rc, isFreed_of_fields -> xP, cls_mapFields -> Dw
open _root_.List.cons renaming inj -> fw, injEq -> Do
open _root_.Array renaming getElem?_toList -> fy, getElem?_eq_getElem -> lG, length_toList -> mS, toList_append -> CM, toList_push -> CW, size_eq_one_iff -> Dv, getElem?_eq_none -> Dx, getElem_toList -> Qq, mem_toList_iff -> QW, forIn_toList -> QZ, getElem?_eq_some_iff -> Q0
open _root_.Nat.succ renaming inj -> gC
open _root_.Int renaming fmod -> iP, not_lt -> j9, ofNat_lt -> lj, le_of_lt -> mJ, lt_irrefl -> mU, ofNat_le -> qI, fdiv -> qJ, natCast_nonneg -> tw, toNat_of_nonneg -> Cx, lt_of_le_of_lt -> CA, max_eq_right -> CB, le_antisymm -> CD, le_trans -> CE, fmod_nonneg_of_pos -> DF, fmod_lt_of_pos -> DG, natAbs_of_nonneg -> PG, le_of_lt_add_one -> PM, le_of_not_gt -> PO, lt_of_lt_of_le -> PP, lt_or_gt_of_ne -> QJ, ofNat_sub -> Rk
open _root_.Iff renaming rfl -> kr
open _root_.PySem.PyData renaming eqv -> lv, strOk -> mM, canLayAll0 -> xc, depthAll -> CG, eqvAll -> P3
open _root_.Ne renaming symm -> lD
open _root_.PySem.Heap.SameBut renaming update -> mY
open _root_.PySem.Value renaming isInt_shape -> nu, isStrOf_shape -> oW, isInt -> t8, isStrOf -> Dl
open _root_.PySem.F renaming called_set -> ny, plain_list_iadd -> xF, slot_tuple_add -> CJ, entry_tuple_add -> CK, args_tuple_add_2 -> CL, slot_list_append -> Qj, slot_list_extend -> Qk, slot_list_pop -> Qm, slot_list_remove -> Qp, slot_dict_setdefault -> Qt, slot_dict_get -> Qu, slot_tuple_lt -> QM, entry_proto_collect -> QO, plain_proto_collect -> QP, entry_list_iadd -> QQ, plain_extend_loop -> QR, plain_set_new -> Q6, slot_set_iter -> Q9
open _root_.PySem.Around renaming under_plainId -> oV
open _root_.Prod.mk renaming inj -> qK
open _root_.PySem.Env renaming kindOf -> qN
open _root_.PySem.W.WShape renaming has -> rg, hasItems -> DK, hasAll -> DL
open _root_.Prod renaming ext -> tD
open _root_.PySem.Str renaming ofString -> ud, ofString -> CF
open _root_.PySem.Challenge renaming rw_nz0023_01 -> w8, pw_nz0023_01 -> RQ
open _root_.PySem.Builtin.List renaming listSameRef -> xG, listExtendWith -> xH, listLengthHint -> xI, listUpdate -> xK, listTooLong -> Qf
open _root_.PySem.W.WTm renaming holds -> xX
open _root_.List.Perm renaming refl -> C4
open _root_.PySem.Calls renaming call_function_entry -> Da
open _root_.PySem.Shared renaming TypeIs -> Dh
open _root_.PySem.SetTable.probe renaming go -> Dk
open _root_.PySem.SetTable.Slot renaming noConfusion -> Dq
open _root_.PyProof.Rows.F renaming plain_set_update_loop -> Ds, entry_set_update_loop -> Q5
open _root_.PySem.pickOrder renaming go -> Du
open _root_.Function renaming comp_def -> DD
open _root_.Lean renaming mkIdent -> PQ
open _root_.Lean.Parser.Tactic renaming simpLemma -> PS, simpStar -> RO, simpErase -> RP
open _root_.Classical renaming propDecidable -> PU, choose -> PV, choose_spec -> PY
open _root_.PySem.SeqAt renaming shaped -> PZ
open _root_.PySem.Heap.DictOf renaming new -> Qa
open _root_.PySem.Value.ref renaming inj -> Qy
open _root_.Decidable renaming of_not_not -> QH, byContradiction -> Rr
open _root_.PySem.Builtin.Tuple renaming tupleItemsOf -> QK
open _root_.PySem.ItemsOf renaming nil -> QT
open _root_.PySem.SetTable.Slot.live renaming inj -> Q2
open _root_.PySem.SetTable.below renaming go -> Rf
open _root_.Sum.inl renaming inj -> Rg
open _root_.PySem.Value.int renaming inj -> Ri
open _root_.PySem.Heap.IsSliceOf renaming new -> RR
open _root_.PySem.AutoSeq1 renaming sub_list_list -> RS
open _root_.PySem.Builtin.Frozenset renaming newClass -> RT, updateFrom -> RU, slot0 -> RV, addrOf -> RW, sizeOf -> RX
section
section
variable {a b c i j k K L : Nat}
theorem bl (h : bx k K = true) : bx k K = true := h
theorem n1 (h : a < k) (e : bx k K = true) : a < K := cH h (eG e)
theorem n2 (h : a <= k) (e : bx k K = true) : a <= K := cY h (eG e)
theorem n3 (h : a <= k) (e : bx (k + 1) K = true) : a < K := n1 (wY h) e
theorem n4 (h : a < k) (e : bx k (K + 1) = true) : a <= K := tm (n1 h e)
theorem m1 (q : b = a) (h : a < k) (e : bx k K = true) : b < K := q ▸ n1 h e
theorem m2 (q : b = a) (h : a <= k) (e : bx k K = true) : b <= K := q ▸ n2 h e
theorem m3 (q : b = a) (h : a <= k) (e : bx (k + 1) K = true) : b < K := q ▸ n3 h e
theorem m4 (q : b = a) (h : a < k) (e : bx k (K + 1) = true) : b <= K := q ▸ n4 h e
theorem ms1 (q : a = b) (h : a < k) (e : bx k K = true) : b < K := m1 q.symm h e
theorem ms2 (q : a = b) (h : a <= k) (e : bx k K = true) : b <= K := m2 q.symm h e
theorem ms3 (q : a = b) (h : a <= k) (e : bx (k + 1) K = true) : b < K := m3 q.symm h e
theorem ms4 (q : a = b) (h : a < k) (e : bx k (K + 1) = true) : b <= K := m4 q.symm h e
theorem w1 (h : a <= b) (g : b < k) (e : bx k K = true) : a < K := n1 (cL h g) e
theorem w2 (h : a <= b) (g : b <= k) (e : bx k K = true) : a <= K := n2 (cY h g) e
theorem w3 (h : a <= b) (g : b <= k) (e : bx (k + 1) K = true) : a < K := n3 (cY h g) e
theorem w4 (h : a <= b) (g : b < k) (e : bx k (K + 1) = true) : a <= K := n4 (cL h g) e
theorem x1 (h : a < k) (e : bx (k + i) K = true) : a + i < K := n1 (wZ h i) e
theorem x2 (h : a <= k) (e : bx (k + i) K = true) : a + i <= K := n2 (mH h i) e
theorem x3 (h : a <= k) (e : bx (k + i + 1) K = true) : a + i < K := n3 (mH h i) e
theorem x4 (h : a < k) (e : bx (k + i) (K + 1) = true) : a + i <= K := n4 (wZ h i) e
theorem y1 (h : a < k) (e : bx (k + i + j) K = true) : a + i + j < K := x1 (wZ h i) e
theorem lo1 (h : k <= a) (e : bx K k = true) : K <= a := cY (eG e) h
theorem lo2 (h : k <= a) (e : bx (K + 1) k = true) : K < a := lo1 h e
theorem lo3 (q : b = a) (h : k <= a) (e : bx K k = true) : K <= b := q ▸ lo1 h e
theorem lo6 (q : a = b) (h : k <= a) (e : bx K k = true) : K <= b := q ▸ lo1 h e
theorem lo4 (q : b = a) (h : k <= a) (e : bx (K + 1) k = true) : K < b := q ▸ lo2 h e
theorem lo5 (h : k < a) (e : bx K (k + 1) = true) : K <= a := lo1 (Nat.succ_le_of_lt h) e
theorem le_sym (q : b = a) : a <= b := j3 q.symm
theorem sb1 (h : a < k) (e : bx k K = true) : a - i < K := cL (mI a i) (n1 h e)
theorem sb2 (h : a <= k) (e : bx (k + 1) K = true) : a - i < K := cL (mI a i) (n3 h e)
theorem wR {P : Nat -> Prop} (h : a < k + 1) (l : a < k -> P a) (e : P k) : P a := (Nat.lt_succ_iff_lt_or_eq.mp h).elim l fun q => q ▸ e
theorem or2 (h : a < 2) : a = 0 \/ a = 1 := wR (P := fun a => a = 0 \/ a = 1) h (fun h => .inl (Nat.lt_one_iff.mp h)) (.inr rfl)
theorem or3 (h : a < 3) : a = 0 \/ a = 1 \/ a = 2 := wR (P := fun a => a = 0 \/ a = 1 \/ a = 2) h (fun h => (or2 h).imp_right .inl) (.inr (.inr rfl))
theorem or4 (h : a < 4) : a = 0 \/ a = 1 \/ a = 2 \/ a = 3 := wR (P := fun a => a = 0 \/ a = 1 \/ a = 2 \/ a = 3) h (fun h => (or3 h).imp_right fun e => e.imp_right .inl) (.inr (.inr (.inr rfl)))
theorem u1 (h : a + k * b + c < L) (e : bx i c = true) : a + i < L := cL (Cu (j4 a _) (eG e)) h
theorem u0 (h : a + k < L) (e : bx i k = true) : a + i < L := cL (jq (eG e) a) h
theorem u00 (h : a + k < L) : a < L := cL (j4 a k) h
theorem z1 (h : a < k) (e : bx k K = true) : ((a : Nat) : Int) < K := lj.mpr (n1 h e)
end
section
variable {a b c i j k m n p s t v r u K L M N : Nat} {x y z : Int} {l : List Nat}
theorem ar1 (h : L < K) : min v L - b < K := cL (cY (mI _ _) (PF _ _)) h
theorem ar2 (h : s - i = k + 1) : s - (i + 1) = k := by rw [Nat.sub_add_eq, h]; rfl
theorem ar3 (h : s - i = k + 1) : i < s := Nat.lt_of_sub_pos (h ▸ tn k)
theorem ar4 (h : s < k) (e : bx (i + n) K = true) (e' : Nat.blt 0 n = true) : ((i : Int) + (s : Int) % (n : Int)).natAbs < K :=
 cH (oB (to s (eG e')) i) (eG e)
theorem ar5 (h : s < k) (q : 0 <= z /\ z <= (s : Int)) (e : bx k K = true) : z.natAbs < K :=
 cH (cL (qI.mp ((PG q.1).symm ▸ q.2)) h) (eG e)
theorem ar6 (h : i - p = k + 1) : p + k = i - 1 := by
 rw [show i = p + (k + 1) from by rw [<-h, tq]; exact (tu (j5 (ar3 h))).symm]; rfl
theorem ar7 (h : ¬ i < p) (q : ¬ i = p) : i - p = i - p - 1 + 1 := (tu (Nat.sub_pos_of_lt (Cv (tv h) fun e => q e.symm))).symm
theorem ar8 (h : i < L) (e : m = L + 1 - i) : L + 1 - (i + 1) < m := e ▸ Nat.sub_lt_sub_left (j6 h) (j7 i)
theorem ar9 (h : 0 < M) : M - (v + 1) < M := Cw h (tn v)
theorem ar10 (h : 1 <= k) (q : k <= M) : M - k < M := Cw (cH h q) h
theorem ar11 (q : j < M - k) : j < M := cH q (mI _ _)
theorem ar12 (h : 1 <= k) (q : k <= M) : min (M - k) M < M := cL (PH _ _) (ar10 h q)
theorem ar13 (h : 0 < k) (q : z < (k : Int)) : z.toNat < k := by
 cases z with
 | ofNat n => exact lj.mp q
 | negSucc n => exact h
theorem ar14 (h : 0 <= z) : (z.toNat : Int) = z := Cx h
theorem ar15 (h : a < k) (e : bx (i + k) K = true) : ((i : Int) + (a : Int)).natAbs < K := cH (oB h i) (eG e)
theorem ar16 (h : a < k) (e : bx (i + k) K = true) : i + a < K := cH (oB h i) (eG e)
theorem ar17 {P : Prop} (h : a + n < K) (q : P /\ b <= m) (e : bx m n = true) : a + min b c < K := cL (jq (cY (PH _ _) (cY q.2 (eG e))) a) h
theorem ar18 (h : ¬ t < n) : n + (t - n) = t := Cy (tv h)
theorem ar19 (h : n <= t) : n + (t - n) = t := Cy h
theorem ar20 {P : Prop} (h : n <= i /\ P) : i = i - n + n := (tu h.1).symm
theorem ar21 (h : t < k + 1) (e : Nat.blt (k - n) m = true) : t - n < m := cL (PJ (tm h) n) (eG e)
theorem ar22 (h : j ≠ i) : j < i + 1 ↔ j < i := ⟨fun q => Cv (tm q) h, j6⟩
theorem ar23 (h : ¬ i < L) (q : i - L = 0) : i = L := Cz (Nat.le_of_sub_eq_zero q) (tv h)
theorem ar24 (h : c <= n) : c + (t - m) <= n + t := Cu h (mI t m)
theorem ar25 (h : c <= n) (q : t <= k) (e : Nat.blt (n + k) K = true) : c + (t - m) < K := cL (cY (ar24 h) (jq q n)) (eG e)
theorem ar26 (h : m <= n) (q : a + p * n + s < K) : a + p * m + s < K := cL (mH (jq (PK p h) a) s) q
theorem ar27 (h : m <= n) (q : a + n < K) : a + m < K := cL (jq h a) q
theorem qz (h : x.natAbs < k) (e : bx k K = true) : x < (K : Int) := CA Int.le_natAbs (lj.mpr (cH h (eG e)))
theorem vV (h : x.natAbs < k) (e : bx k K = true) : -(K : Int) < x := by
 have := qz (x := -x) (K := K) (by rw [Int.natAbs_neg]; exact h) e
 exact Int.neg_neg x ▸ Int.neg_lt_neg this
theorem LZ (h : x.natAbs < k) (e : bx k K = true) : -(K : Int) <= x := mJ (vV h e)
theorem ar31 {α : Type} {a : α} {l : List α} (h : (a :: l).length = n + 1) : (a :: l).length - 1 = n := gC h
theorem ar32 (h : L - 1 <= N) : L <= N + 1 := Nat.sub_le_iff_le_add.mp h
theorem ar33 (h : a <= b - 1) (q : 0 < b) : a + 1 <= b := cY (mK h) (j3 (Nat.succ_pred_eq_of_pos q))
theorem ar34 (h : x < y) : ((y - x).toNat : Int) - ((0 : Nat) : Int) = y - x := by rw [Cx (Int.sub_nonneg_of_le (mJ h))]; exact Int.sub_zero _
theorem ar35 (h : 0 < x) (q : x < (K : Int)) : x.natAbs < K := lj.mp (PG (mJ h) ▸ q)
theorem ar36 {P Q : Prop} (h : P /\ a <= n) (q : Q /\ b <= n) : max a b <= n := Nat.max_le.mpr ⟨h.2, q.2⟩
theorem ar37 (h : 0 <= x /\ x < ((N + 1 : Nat) : Int)) (q : x ≠ (N : Int)) : 0 <= x /\ x < (N : Int) := ⟨h.1, Int.lt_iff_le_and_ne.mpr ⟨PM h.2, q⟩⟩
theorem EU (h : L < k) (q : x.toNat < L) (e : bx k K = true) : x < (K : Int) := CA (Int.self_le_toNat x) (lj.mpr (cH (Nat.lt_trans q h) (eG e)))
theorem ar39 (h : c <= n) (q : a + k * (p + 1) + s < K) (e : bx n k = true) : a + c + k * p + s < K :=
 cL (mH (by rw [Nat.mul_succ, mL a c, tq c]; exact jq (jq (cY h (eG e)) _) a) s) q
theorem ar40 (h : c <= 1) (q : a + (p + 1) < K) : a + c + p < K := cL (by rw [mL, tq c]; exact jq (jq h p) a) q
theorem ar41 : min p L + (L - p + 1) = L + 1 := by
 rw [<-mL]
 refine congrArg (· + 1) ?_
 rcases w5 p L with h | h
 ·rw [oC h, Cy h]
 ·rw [w6 h, Nat.sub_eq_zero_of_le h]; rfl
theorem ar42 : a + (a + b - a) = a + b := congrArg (a + ·) (PN a b)
theorem ar43 : max 0 (min (a : Int) (b : Int)) = ((min a b : Nat) : Int) := by
 rcases w5 a b with h | h
 ·rw [oC h, Int.min_eq_left (qI.mpr h)]; exact CB (tw a)
 ·rw [w6 h, Int.min_eq_right (qI.mpr h)]; exact CB (tw b)
theorem ar44 (h : r + 3 <= a + b + c) (q : a < p) : r + 1 + 3 <= p + b + c := by
 have := mH (mH q b) c
 rw [CC, CC] at this
 exact cY (mK h) this
theorem ar45 : max 1 (a : Int) = if 1 < (a : Int) then (a : Int) else 1 := by
 by_cases h : 1 < (a : Int)
 ·rw [if_pos h]; exact CB (mJ h)
 ·rw [if_neg h]; exact Int.max_eq_left (PO h)
theorem ar46 (h : m + (n + 1) = L) (q : s <= k + p * m) (e : bx (k + p * L) K = true) : s < K + 1 := wY (cY q (cY (jq (PK p (h ▸ j4 m (n + 1))) k) (eG e)))
theorem ar47 (h : u = L) : u <= L - 1 + 1 := by
 cases L with
 | zero => rw [h]; exact dZ _
 | succ n => exact j3 h
theorem ar48 (h : s + p * (m + 1) < K) (q : t <= s + p) : t + p * m < K := cL (cY (mH q _) (by rw [Nat.mul_succ, mL, tq p]; exact bq _)) h
theorem arq (e : a = L + i) (h : i < k) : L <= a /\ a < L + k := e ▸ ⟨j4 L i, oB h L⟩
theorem ar49 (h : a = L \/ a = L + 1 \/ a = L + 2 \/ a = L + 3 \/ a = L + 4 \/ a = L + 5 \/ a = L + 6) : L <= a /\ a < L + 7 := by
 rcases h with e | h
 ·exact arq (i := 0) e (tn 6)
 ·rcases h with e | e | e | e | e | e <;> exact arq e (eG rfl)
theorem ar52 (h : a = L \/ a = L + 1 \/ a = L + 2 \/ a = L + 3 \/ a = L + 4 \/ a = L + 5) : L <= a := by
 rcases h with e | h
 ·exact j3 e.symm
 ·rcases h with e | e | e | e | e <;> exact e ▸ j4 L _
theorem ar53 {k : Int} (h : -1 <= k /\ k <= 4) : k = -1 \/ k = 0 \/ k = 1 \/ k = 2 \/ k = 3 \/ k = 4 := by
 cases k with
 | negSucc n => exact .inl (CD (PM (b := -1) (Int.negSucc_lt_zero n)) h.1)
 | ofNat n =>
  refine .inr ?_
  match n, qI.mp h.2 with
  | 0, _ => exact .inl rfl
  | 1, _ => exact .inr (.inl rfl)
  | 2, _ => exact .inr (.inr (.inl rfl))
  | 3, _ => exact .inr (.inr (.inr (.inl rfl)))
  | 4, _ => exact .inr (.inr (.inr (.inr rfl)))
theorem ar50 (h : x.natAbs < k) (e : bx k K = true) (g : ¬ (-(K : Int) < x /\ x < (K : Int))) : False := g ⟨vV h e, qz h e⟩
theorem ar51 (h : 0 < x) (q : x < (K : Int)) (g : ¬ x.natAbs < K) : False := g (ar35 h q)
theorem c1 (h : L < 100000) (q : u = L) : ((u : Nat) : Int) < 2 ^ 63 := PP (lj.mpr (q ▸ h)) (mJ (qz (x := 100000) (k := 100001) (K := 2 ^ 63) (eG rfl) rfl))
theorem c2 (h : L < 100000) (q : x.toNat < L) : x < 2 ^ 63 := EU (K := 2 ^ 63) h q rfl
theorem c5 (h : 0 <= x) : -2 ^ 63 <= x := CE (Int.neg_nonpos_of_nonneg (tw (2 ^ 63))) h
theorem c6 (h : a < 5) : a * 5 < 21 := cL (Nat.mul_le_mul_right 5 (tm h)) (eG rfl)
theorem c3 (h : x.natAbs < 4096) : x < 2 ^ 62 := qz (K := 2 ^ 62) h rfl
theorem c4 (h : x.natAbs < 4096) : -2 ^ 62 <= x := LZ (K := 2 ^ 62) h rfl
end
end
set_option hygiene false
local macro_rules
 | `(tactic| specialize $e) => `(tactic| (apply $e <;> first | exact M.Tactic.bl rfl | assumption))
 | `(tactic| trivial) => do `(tactic| first | assumption $[| specialize $((("Nat.le_of_not_lt Nat.lt_of_not_le n1 n2 n3 n4 m1 m2 m3 m4 ms1 ms2 ms3 ms4 x1 x2 x3 x4 lo1 lo2 lo5 w1 w2 w3 w4 y1 lo3 lo4 lo6 sb1 sb2 or3 or4 or2 u1 u0 u00 ar1 ar2 ar3 ar4 ar5 ar6 ar7 ar8 ar9 ar10 ar11 ar12 ar13 ar14 ar15 ar16 ar17 ar18 ar19 ar20 ar21 ar22 ar23 ar24 ar25 ar26 ar27 ar31 ar32 ar33 ar34 ar35 ar36 ar37 ar39 ar40 ar41 ar42 ar43 ar44 ar45 ar46 ar47 ar48 ar49 ar50 ar51 ar52 ar53 Nat.le_of_eq le_sym Nat.lt_of_lt_of_le Nat.lt_of_le_of_lt".splitOn " ").toArray.map fun s => Lean.mkIdent (if s.startsWith "N" then s.toName else `M.Tactic ++ s.toName)))]* | lia | omega)
local macro_rules
 | `(tactic| simp? only [$xs,*] $[$l]?) => do
  let ws : Array (Lean.TSyntax [`Lean.Parser.Tactic.simpStar, `Lean.Parser.Tactic.simpErase, `Lean.Parser.Tactic.simpLemma]) <-("List.getElem?_cons_zero List.getElem?_cons_succ List.set_cons_zero List.set_cons_succ put_t1 put_t2 put_f1 put_f2 ti_0 ti_1 tm_0_6 tm_0_7 tm_0_8 tm_0_9 tm_0_10 tm_0_11 tm_0_12 tm_0_13 tm_0_14 tm_1_15 tm_1_16 tm_1_17 tm_1_18 tm_1_19 tm_1_20 tm_1_21 tm_1_22 tm_1_23 tm_1_24 tm_1_2 tm_1_25 tm_1_26 bnd_none WO_some oWO_some isB_bool isI_int isR_ref isT_str isS_some isSS_some isLs_list isDc_dict kOf2 kEn2 kCon2 kCon kAt kTup kLsT kSel3 kSel2 kSel1 kAttr kSub2 kSub1 kSome kSl6 kSl5 kSl4 kSl3 kSl2 kSl1 kBin2 kBin1 kNeg2 kNeg kNot2 kNot kBool kCmp2 kCmp1 kB1 kB2 kB kIf2 kIf kFn kNew2 kNew_the kBi isO_some kMl2 kMl kMd2 kMd kMi4 kMi3 kMe kCp2 kCp kR12 kR1 kR2d kR2c kR2b kR2a kOf kEn kT2 kT kCo3 kCo2 kCo kEx kNx kAs kAts kRet kXi2 kXi kWh2 kWh kFr kFo kLoc kSa kSs2 kSs1 kSts kEnd kM_list kM_dict kM_inst kMi2_attrs kSeq_next kSeq_ret kMe2_WM WOf_ref WOf_lst WOf_tup WEn_ref WEn_lst WEs_nil WEs_cons WE_const WE_loc WE_tup WE_listT WE_list WE_edict WE_dictSel WE_attr WE_sub WEo_none WEo_some WE_slice WE_bin WE_neg WE_not WE_cmp WE_bop WB_one WB_cons WE_ite WE_fn WE_new WE_bi WE_meth WE_comp WIt_range1 WIt_range2 WIt_of WIt_enum WT_nil WT_cons WXs_nil WXs_cons WX_expr WX_assign WX_assignTup WX_ret0 WX_ret WX_ite WX_for WSt_name WSt_names WSt_attr WSt_sub WSts_nil WSts_cons endC_same flv_next flv_ret bin_add bin_sub bin_mul bin_div bin_mod bin_tup bin_lst bin_ref bi_len bi_max bi_min bi_tuple bi_list bi_listT bi_sref bi_slst bi_sset cmp_lt cmp_le cmp_gt cmp_ge cmp_eq cmp_ne cmp_is cmp_isn cmp_in cmp_nin frz_int frz_none frz_bool frz_str frz_tup frz_lst oR_r oIn_i oAt_a oLD_l oLD_d jn_s oI_i asL_l frz_some oT_t one_1 two_2 dOr_s dOr_n eqO_def addTup_add arith_add arith_sub seqO_t seqO_l onFl".splitOn " ").toArray.mapM fun s => do return ⟨(<-`(Lean.Parser.Tactic.simpLemma| $(Lean.mkIdent s.toName):ident)).raw⟩
  let ys := ws ++ xs.getElems
  `(tactic| simp only [$ys,*] $[$l]?)
set_option hygiene true
section
set_option backward.match.sparseCases false
noncomputable section
inductive V where
 | none | bool (b : Bool) | int (i : Int) | str (s : ac)
 | tup (l : List V) | lst (l : List V) | ref (i : Nat)
 deriving Inhabited
noncomputable instance : DecidableEq V := fun a b => PU _
mutual
noncomputable def V.noRef : V -> Bool
 | .tup l | .lst l => V.noRefs l
 | .ref _ => false
 | _ => true
noncomputable def V.noRefs : List V -> Bool
 | [] => true
 | a :: r => V.noRef a && V.noRefs r
end
inductive ar where
 | list (l : List V)
 | dict (l : List (Int × V))
 | inst (c : Nat) (j : Nat)
 | attrs (m : List (Option V))
 deriving Inhabited
noncomputable instance : DecidableEq ar := fun a b => PU _
noncomputable abbrev AH := List ar
noncomputable abbrev Loc := List (Option V)
inductive Op | add | sub | mul | fdiv | fmod deriving DecidableEq
inductive Cm | lt | le | gt | ge | eq | ne | is | isNot | isin | notin deriving DecidableEq
inductive Bi | len | max | min | tuple | list | listT | sorted | sortedSet deriving DecidableEq
mutual
inductive E where
 | const (v : V)
 | loc (i : Nat)
 | tup (es : List E)
 | list (t : Bool) (es : List E)
 | edict
 | dictSel (ks : List ac) (es : List E) (sel : E)
 | attr (e : E) (k : Nat)
 | sub (a b : E)
 | slice (t : Bool) (a : E) (lo hi : Option E)
 | bin (op : Op) (a b : E)
 | neg (a : E)
 | not (a : E)
 | cmp (op : Cm) (a b : E)
 | bop (Sl : Bool) (es : List E)
 | ite (t a b : E)
 | fn (f : Nat) (es : List E)
 | new (c : Nat)
 | bi (b : Bi) (es : List E)
 | meth (o : E) (m : Nat) (es : List E)
 | comp (t : Bool) (elt : E) (tg : List Nat) (one : Bool) (it : It) (ifs : List E) (base n : Nat)
 | bad
inductive It where
 | range1 (e : E)
 | range2 (a b : E)
 | enum (e : E)
 | of (e : E)
end
noncomputable instance : Inhabited E := ⟨.edict⟩
inductive Tg where
 | name (i : Nat)
 | names (l : List Nat)
 | attr (e : E) (k : Nat)
 | sub (a b : E)
inductive S where
 | expr (e : E)
 | assign (t : Tg) (e : E)
 | assignTup (ts : List Tg) (es : List E)
 | ret (e : Option E)
 | ite (t : E) (a b : List S)
 | whil (t : E) (b : List S)
 | for_ (t : Tg) (it : It) (b : List S)
 | bad
inductive Fl | next | ret (v : V)
noncomputable def Fl.val : Fl -> V
 | .next => .none
 | .ret v => v
section
variable {α : Type}
noncomputable def oI (v : V) (f : Int -> Option α) : Option α := match v with | .int k => f k | _ => Option.none
noncomputable def oS (v : V) (f : ac -> Option α) : Option α := match v with | .str k => f k | _ => Option.none
noncomputable def oT (v : V) (f : List V -> Option α) : Option α := match v with | .tup k => f k | _ => Option.none
noncomputable def one (l : List V) (f : V -> Option α) : Option α := match l with | a :: l => (match l with | [] => f a | _ :: _ => Option.none) | [] => Option.none
noncomputable def two (l : List V) (f : V -> V -> Option α) : Option α := match l with | a :: l => one l (f a) | [] => Option.none
noncomputable def rZ (l : List V) (f : V -> V -> V -> Option α) : Option α := match l with | a :: l => two l (f a) | [] => Option.none
noncomputable def oN (v : V) (x : Option α) : Option α := match v with | .none => x | _ => Option.none
@[simp] theorem oN_n {x : Option α} : oN .none x = x := rfl
@[simp] theorem oI_i {k : Int} {f : Int -> Option α} : oI (.int k) f = f k := rfl
@[simp] theorem oS_s {k : ac} {f : ac -> Option α} : oS (.str k) f = f k := rfl
@[simp] theorem oT_t {k : List V} {f : List V -> Option α} : oT (.tup k) f = f k := rfl
@[simp] theorem one_1 {a : V} {f : V -> Option α} : one [a] f = f a := rfl
@[simp] theorem two_2 {a b : V} {f : V -> V -> Option α} : two [a, b] f = f a b := rfl
@[simp] theorem thr_3 {a b c : V} {f : V -> V -> V -> Option α} : rZ [a, b, c] f = f a b c := rfl
variable {β : Type} {r : α} {G : Prop}
theorem mc {b : Bool} (h : (!b) = true) : b = false := by cases b <;> first | rfl | cases h
theorem aD (h : Option.none = some r) : G := nomatch h
theorem eD {q : α} (h : some q = some r) (g : q = r -> G) : G := g (aC h)
theorem fQ {a c : α} {b d : β} (h : some (a, b) = some (c, d)) (g : a = c -> b = d -> G) : G := eD h fun h => g (congrArg (·.1) h) (congrArg (·.2) h)
theorem bT {c : Prop} [i : Decidable c] {x : Option α} (h : (if c then x else Option.none) = some r) (g : c -> x = some r -> G) : G := by
 cases i with
 | isTrue p => exact g p h
 | isFalse p => exact aD h
theorem mu {c : Prop} [i : Decidable c] {x : Option α} (h : (if c then Option.none else x) = some r) (g : ¬ c -> x = some r -> G) : G := by
 cases i with
 | isTrue p => exact aD h
 | isFalse p => exact g p h
theorem ew {c : Prop} [i : Decidable c] {x y : Option α} (h : (if c then x else y) = some r) (g : c -> x = some r -> G) (k : ¬ c -> y = some r -> G) : G := by
 cases i with
 | isTrue p => exact g p h
 | isFalse p => exact k p h
theorem bv {x : Option β} {f : β -> Option α} (h : x.bind f = some r) (g : ∀ a, x = some a -> f a = some r -> G) : G := by
 cases x with
 | none => exact aD h
 | some a => exact g a rfl h
theorem bd {x : Option β} {f : β -> α} (h : x.map f = some r) (g : ∀ a, x = some a -> f a = r -> G) : G := by
 cases x with
 | none => exact aD h
 | some a => exact eD h (g a rfl)
theorem fO {v : V} {f : Int -> Option α} (h : oI v f = some r) (g : ∀ k, v = .int k -> f k = some r -> G) : G := by
 cases v with
 | int k => exact g k rfl h
 | _ => exact aD h
theorem HF {v : V} {f : ac -> Option α} (h : oS v f = some r) (g : ∀ k, v = .str k -> f k = some r -> G) : G := by
 cases v with
 | str k => exact g k rfl h
 | _ => exact aD h
theorem rA {v : V} {f : List V -> Option α} (h : oT v f = some r) (g : ∀ k, v = .tup k -> f k = some r -> G) : G := by
 cases v with
 | tup k => exact g k rfl h
 | _ => exact aD h
theorem Bp {v : V} {x : Option α} (h : oN v x = some r) (g : v = .none -> x = some r -> G) : G := by
 cases v with
 | none => exact g rfl h
 | _ => exact aD h
theorem nI {l : List V} {f : V -> Option α} (h : one l f = some r) (g : ∀ a, l = [a] -> f a = some r -> G) : G := by
 cases l with
 | nil => exact aD h
 | cons a l => cases l with
  | nil => exact g a rfl h
  | cons => exact aD h
theorem qw {l : List V} {f : V -> V -> Option α} (h : two l f = some r) (g : ∀ a b, l = [a, b] -> f a b = some r -> G) : G := by
 cases l with
 | nil => exact aD h
 | cons a l => exact nI h fun b e => g a b (congrArg _ e)
theorem Fh {l : List V} {f : V -> V -> V -> Option α} (h : rZ l f = some r) (g : ∀ a b c, l = [a, b, c] -> f a b c = some r -> G) : G := by
 cases l with
 | nil => exact aD h
 | cons a l => exact qw h fun b c e => g a b c (congrArg _ e)
end
noncomputable def oA (f : List V -> Bool) (v : V) : Bool := match v with
 | .none => true
 | .int _ => true
 | .str x => mM x
 | .tup l => f l
 | .lst l => f l
 | _ => false
noncomputable def aI : Nat -> V -> Bool
 | 0 => oA fun u' => false
 | n + 1 => oA fun l => l.all (aI n)
section
variable (n : Nat)
@[simp] theorem Mi : aI n .none = true := by cases n <;> rfl
@[simp] theorem md (i : Int) : aI n (.int i) = true := by cases n <;> rfl
theorem wJ (x : ac) : aI n (.str x) = mM x := by cases n <;> rfl
@[simp] theorem RE (x : Bool) : aI n (.bool x) = false := by cases n <;> rfl
@[simp] theorem RG (x : Nat) : aI n (.ref x) = false := by cases n <;> rfl
@[simp] theorem Rv (l : List V) : aI 0 (.tup l) = false := rfl
@[simp] theorem RH (l : List V) : aI 0 (.lst l) = false := rfl
@[simp] theorem Bv (l : List V) : aI (n + 1) (.tup l) = l.all (aI n) := rfl
@[simp] theorem sh (l : List V) : aI (n + 1) (.lst l) = l.all (aI n) := rfl
end
noncomputable def vb (a b : V) : Option Bool := if aI 8 a && aI 8 b then some (decide (a = b)) else Option.none
noncomputable def eqv (a b : V) : Option Bool := match a with
 | .bool x => (match b with
  | .bool y => some (x == y)
  | _ => Option.none)
 | _ => vb a b
noncomputable def fM (s : ac) : Option Int :=
 if s = "!=" then some 0 else if s = "<=" then some 1 else if s = "=" then some 2 else if s = ">=" then some 3 else Option.none
noncomputable def gU (v : V) : Option (List Int) := oT v fun l => rZ l fun a b c => oI a fun x => oS b fun s => oI c fun k => (fM s).map fun c => [x, c, k]
theorem pS {v : V} {r : List Int} {G : Prop} (h : gU v = some r) (g : ∀ x s k c, v = .tup [.int x, .str s, .int k] -> fM s = some c -> r = [x, c, k] -> G) : G :=
 rA h fun l e h => Fh h fun a b c e1 h => fO h fun x e2 h => HF h fun s e3 h => fO h fun k e4 h => bd h fun q e5 h => g x s k q (by rw [e, e1, e2, e3, e4]) e5 h.symm
noncomputable def ye (v : V) : Option (List Int) := oT v fun l => two l fun a l => oI a fun h => (gU l).map (h :: ·)
noncomputable def V.key (v : V) : Option (List Int) := match v with
 | .int i => some [i]
 | v => (gU v).or (ye v)
noncomputable def lexLt : List Int -> List Int -> Bool
 | [], _ => false
 | a :: r, l => (match l with
  | [] => false
  | b :: q => if a < b then true else if b < a then false else lexLt r q)
noncomputable def ltO (a b : Option (List Int)) : Bool := match a with
 | some x => (match b with
  | some y => lexLt x y
  | Option.none => false)
 | Option.none => false
noncomputable def V.lt (a b : V) : Bool := ltO a.key b.key
noncomputable def V.isInt : V -> Bool
 | .int _ => true
 | _ => false
noncomputable def V.isLit (v : V) : Bool := (gU v).isSome
noncomputable def V.isRank (v : V) : Bool := (ye v).isSome
noncomputable def n6 (x : V) : List V -> List V
 | [] => [x]
 | y :: r => if V.lt x y then x :: y :: r else y :: n6 x r
theorem AL {x : V} {y} {r} : n6 x (y :: r) = (if V.lt x y then x :: y :: r else y :: n6 x r) := rfl
noncomputable def cq (l : List V) : List V := l.foldr n6 []
noncomputable def sortable (l : List V) : Bool := (l.all V.isInt || l.all V.isLit || l.all V.isRank) && decide (l.length < 5)
noncomputable def fc : List V -> List V
 | [] => []
 | x :: r => if r.contains x then fc r else x :: fc r
theorem mh   : fc  [] = ([]) := rfl
theorem lR  {x} {r} : fc  (x :: r) = (if r.contains x then fc r else x :: fc r) := rfl
noncomputable def ag (H : AH) (i : Nat) : Option ar := H[i]?
noncomputable def eB (o : Option ar) : Option (List V) := match o with
 | some o => (match o with
  | .list l => some l
  | _ => Option.none)
 | Option.none => Option.none
@[simp] theorem asL_l {l : List V} : eB (some (.list l)) = some l := rfl
theorem Am {o : Option ar} {l : List V} {G : Prop} (h : eB o = some l) (g : o = some (.list l) -> G) : G := by
 rcases o with _ | o
 ·exact aD h
 ·cases o with
  | list q => exact eD h fun e => g (by rw [e])
  | _ => exact aD h
noncomputable def bK (H : AH) : V -> Option (List V)
 | .lst l => some l
 | .ref i => eB (ag H i)
 | _ => Option.none
noncomputable def dF (H : AH) : V -> Option (List V)
 | .tup l => some l
 | v => bK H v
noncomputable def nU (i : Nat) (o : Option (List V)) : V := match o with
 | some l => .lst l
 | Option.none => .ref i
@[simp] theorem frz_some {i : Nat} {l : List V} : nU i (some l) = .lst l := rfl
noncomputable def du (H : AH) : V -> V
 | .ref i => nU i (eB (ag H i))
 | v => v
noncomputable def fE (l : List V) (k : Int) : Option V := if 0 <= k then l[k.toNat]? else if 0 <= k + l.length then l[(k + l.length).toNat]? else Option.none
noncomputable def dictAt : List (Int × V) -> Int -> Option V
 | [], _ => Option.none
 | (a, b) :: r, k => if a = k then some b else dictAt r k
theorem Fi  {u0} : dictAt  [] u0 = (Option.none) := rfl
theorem Gm  {a} {b} {r} {k} : dictAt  ((a, b) :: r) k = (if a = k then some b else dictAt r k) := rfl
noncomputable def dictPut (l : List (Int × V)) (k : Int) (v : V) : List (Int × V) :=
 match l with
 | [] => [(k, v)]
 | (a, b) :: r => if a = k then (a, v) :: r else (a, b) :: dictPut r k v
section
variable {α : Type}
noncomputable def oR (v : V) (f : Nat -> Option α) : Option α := match v with | .ref k => f k | _ => Option.none
@[simp] theorem oR_r {k : Nat} {f : Nat -> Option α} : oR (.ref k) f = f k := rfl
noncomputable def Hk (o : ar) (f : List V -> Option α) (g : List (Int × V) -> Option α) : Option α := match o with
 | .list l => f l
 | .dict l => g l
 | _ => Option.none
noncomputable def KD (o : ar) (f : Nat -> Nat -> Option α) : Option α := match o with
 | .inst c j => f c j
 | _ => Option.none
noncomputable def JP (o : ar) (f : List (Option V) -> Option α) : Option α := match o with
 | .attrs m => f m
 | _ => Option.none
noncomputable def iW (o : Option ar) (f : List V -> Option α) (g : List (Int × V) -> Option α) : Option α := match o with
 | some o => Hk o f g
 | Option.none => Option.none
noncomputable def kY (o : Option ar) (f : Nat -> Nat -> Option α) : Option α := match o with
 | some o => KD o f
 | Option.none => Option.none
noncomputable def kJ (o : Option ar) (f : List (Option V) -> Option α) : Option α := match o with
 | some o => JP o f
 | Option.none => Option.none
@[simp] theorem oLD_l {l : List V} {f : List V -> Option α} {g : List (Int × V) -> Option α} : iW (some (.list l)) f g = f l := rfl
@[simp] theorem oLD_d {l : List (Int × V)} {f : List V -> Option α} {g : List (Int × V) -> Option α} : iW (some (.dict l)) f g = g l := rfl
@[simp] theorem oIn_i {c j : Nat} {f : Nat -> Nat -> Option α} : kY (some (.inst c j)) f = f c j := rfl
@[simp] theorem oAt_a {l : List (Option V)} {f : List (Option V) -> Option α} : kJ (some (.attrs l)) f = f l := rfl
variable {r : α} {G : Prop}
theorem uW {v : V} {f : Nat -> Option α} (h : oR v f = some r) (g : ∀ k, v = .ref k -> f k = some r -> G) : G := by
 cases v with
 | ref k => exact g k rfl h
 | _ => exact aD h
theorem wx {o : Option ar} {f : List V -> Option α} {f' : List (Int × V) -> Option α} (h : iW o f f' = some r) (g : ∀ l, o = some (.list l) -> f l = some r -> G) (k : ∀ l, o = some (.dict l) -> f' l = some r -> G) : G := by
 cases o with
 | none => exact aD h
 | some o => cases o with
  | list l => exact g l rfl h
  | dict l => exact k l rfl h
  | _ => exact aD h
theorem zm {o : Option ar} {f : Nat -> Nat -> Option α} (h : kY o f = some r) (g : ∀ c j, o = some (.inst c j) -> f c j = some r -> G) : G := by
 cases o with
 | none => exact aD h
 | some o => cases o with
  | inst c j => exact g c j rfl h
  | _ => exact aD h
theorem BO {o : Option ar} {f : List (Option V) -> Option α} (h : kJ o f = some r) (g : ∀ m, o = some (.attrs m) -> f m = some r -> G) : G := by
 cases o with
 | none => exact aD h
 | some o => cases o with
  | attrs m => exact g m rfl h
  | _ => exact aD h
noncomputable def jn (x : Option (Option α)) : Option α := match x with
 | some o => o
 | Option.none => Option.none
@[simp] theorem jn_s {o : Option α} : jn (some o) = o := rfl
theorem OQ {x : Option (Option α)} (h : jn x = some r) : x = some (some r) := by
 cases x with
 | none => exact aD h
 | some o => exact congrArg some h
end
noncomputable def wj (a : V) (k : Int) : Option V := match a with
 | .tup l => fE l k
 | .lst l => fE l k
 | _ => Option.none
noncomputable def cf (H : AH) (a b : V) : Option V := oI b fun k => match a with
 | .ref i => iW (ag H i) (fun l => fE l k) (fun l => dictAt l k)
 | a => wj a k
noncomputable def bh (H : AH) (t : Bool) (l : List V) : V × AH := match t with
 | true => (.ref H.length, H ++ [.list l])
 | false => (.lst l, H)
noncomputable def fN : Option V -> Option (Option Nat)
 | Option.none => some Option.none
 | some (.int k) => if 0 <= k then some (some k.toNat) else Option.none
 | _ => Option.none
noncomputable def d6 (l : List V) (lo hi : Option Nat) : List V := (match hi with | some h => l.take h | Option.none => l).drop (lo.getD 0)
noncomputable def lM (H : AH) (op : Op) (a b : V) : Option (V × AH) := match op with
 | .add => (bK H a).bind fun x => (bK H b).bind fun y => if x.length + y.length < 4096 then some (bh H true (x ++ y)) else Option.none
 | _ => Option.none
noncomputable def pW (H : AH) (op : Op) (x y : Int) : Option (V × AH) := match op with
 | .add => some (.int (x + y), H)
 | .sub => some (.int (x - y), H)
 | .mul => if decide (x.natAbs < 2 ^ 40) && decide (y.natAbs < 2 ^ 40) then some (.int (x * y), H) else Option.none
 | .fdiv => if decide (0 < y) && decide (y < 1073741824) then some (.int (qJ x y), H) else Option.none
 | .fmod => if 0 < y then some (.int (iP x y), H) else Option.none
noncomputable def vw (H : AH) (op : Op) (x y : List V) : Option (V × AH) := match op with
 | .add => if x.length + y.length < 4096 then some (.tup (x ++ y), H) else Option.none
 | _ => Option.none
noncomputable def hO (H : AH) (op : Op) (a b : V) : Option (V × AH) := match a with
 | .int x => oI b fun y => pW H op x y
 | .tup x => oT b fun y => vw H op x y
 | .lst x => lM H op (.lst x) b
 | .ref i => lM H op (.ref i) b
 | _ => Option.none
noncomputable def gT (x : V) (l : List V) : Option Bool := if aI 8 x && l.all (aI 8) then some (decide (x ∈ l)) else Option.none
noncomputable def V.isNone : V -> Bool
 | .none => true
 | _ => false
noncomputable def nY (f : Int -> Int -> Bool) (a b : V) : Option Bool := oI a fun x => oI b fun y => some (f x y)
@[simp] theorem Ru {f : Int -> Int -> Bool} {x y : Int} : nY f (.int x) (.int y) = some (f x y) := rfl
noncomputable def bF (H : AH) (op : Cm) (a b : V) : Option Bool := match op with
 | .lt => nY (fun x y => decide (x < y)) a b
 | .le => nY (fun x y => decide (x <= y)) a b
 | .gt => nY (fun x y => decide (x > y)) a b
 | .ge => nY (fun x y => decide (x >= y)) a b
 | .eq => eqv (du H a) (du H b)
 | .ne => (eqv (du H a) (du H b)).map (!·)
 | .is => oN b (some a.isNone)
 | .isNot => oN b (some (!a.isNone))
 | .isin => (bK H b).bind (gT a)
 | .notin => ((bK H b).bind (gT a)).map (!·)
noncomputable def srt (H : AH) (v : V) : Option (V × AH) := match v with
 | .ref i => iW (ag H i) (fun l => if sortable l then some (.lst (cq l), H) else Option.none) (fun l => if decide (l.length < 5) then some (.lst (cq (l.map fun p => .int p.1)), H) else Option.none)
 | .lst l => if sortable l then some (.lst (cq l), H) else Option.none
 | _ => Option.none
noncomputable def dq (H : AH) (b : Bi) (vs : List V) : Option (V × AH) := match b with
 | .len => one vs fun v => (dF H v).map fun l => (.int l.length, H)
 | .max => two vs fun a b => oI a fun x => oI b fun y => some (.int (if y > x then y else x), H)
 | .min => two vs fun a b => oI a fun x => oI b fun y => some (.int (if y < x then y else x), H)
 | .tuple => one vs fun v => (dF H v).map fun l => (.tup l, H)
 | .list => one vs fun v => (dF H v).map fun l => (.lst l, H)
 | .listT => one vs fun v => (dF H v).map fun l => bh H true l
 | .sorted => one vs (srt H)
 | .sortedSet => one vs fun v => (bK H v).bind fun l => if l.all V.isLit && decide (l.length < 5) then some (.lst (cq (fc l)), H) else Option.none
noncomputable def i8 (k : Int) : List V -> Option (List V)
 | [] => Option.none
 | v :: r => oI v fun a => if a = k then some r else (i8 k r).map (.int a :: ·)
theorem MX {k : Int}  : i8 k [] = (Option.none) := rfl
theorem FO {k : Int} {v} {r} : i8 k (v :: r) = (oI v fun a => if a = k then some r else (i8 k r).map (.int a :: ·)) := rfl
noncomputable def dB (H : AH) (i : Nat) (l : List V) (m : Nat) (vs : List V) : Option (V × AH) :=
 if m = 0 then one vs fun v => if l.length < 4096 then some (.none, H.set i (.list (l ++ [v]))) else Option.none
 else if m = 1 then one vs fun v => (bK H v).bind fun q => if v = .ref i then Option.none else if l.length + q.length < 4096 then some (.none, H.set i (.list (l ++ q))) else Option.none
 else if m = 2 then if vs = [] then l.getLast?.map fun v => (v, H.set i (.list l.dropLast)) else Option.none
 else if m = 3 then one vs fun v => oI v fun k => if l.all V.isInt then (i8 k l).map fun q => (.none, H.set i (.list q)) else Option.none
 else Option.none
noncomputable def kz {α : Type} (o : Option V) (f : V -> α) (x : α) : α := match o with
 | some w => f w
 | Option.none => x
@[simp] theorem dOr_s {α : Type} {w : V} {f : V -> α} {x : α} : kz (some w) f x = f w := rfl
@[simp] theorem dOr_n {α : Type} {f : V -> α} {x : α} : kz Option.none f x = x := rfl
noncomputable def gQ (H : AH) (i : Nat) (l : List (Int × V)) (m : Nat) (vs : List V) : Option (V × AH) :=
 if m = 4 then two vs fun a v => oI a fun k => kz (dictAt l k) (fun w => some (w, H)) (if l.length < 4096 then some (v, H.set i (.dict (dictPut l k v))) else Option.none)
 else if m = 5 then two vs fun a v => oI a fun k => some (kz (dictAt l k) (fun w => (w, H)) (v, H))
 else Option.none
structure FR where
 np : Nat
 nloc : Nat
 body : List S
structure cn where
 fns : List FR
 init : Nat -> Option Nat
 meth : Nat -> Nat -> Option Nat
 nattr : Nat
structure hY where
 eval : E -> Loc -> AH -> Option (V × AH)
 exec : S -> Loc -> AH -> Option (Fl × Loc × AH)
 call : Nat -> List V -> AH -> Option (V × AH)
noncomputable def bU (g : Option (Nat × List V)) (H : AH) : Bool := match g with
 | Option.none => true
 | some (i, l) => decide (ag H i = some (.list l))
noncomputable def gG : List Nat -> List V -> Loc -> Loc
 | [], _, loc => loc
 | i :: r, l, loc => (match l with
  | [] => loc
  | v :: q => gG r q (loc.set i (some v)))
noncomputable def oo (tg : List Nat) (v : V) (loc : Loc) : Option Loc := oT v fun l => if l.length = tg.length then some (gG tg l loc) else Option.none
noncomputable def iL (tg : List Nat) (one : Bool) (v : V) (loc : Loc) : Option Loc := match one with
 | true => (match tg with
  | i :: tg => (match tg with
   | [] => some (loc.set i (some v))
   | _ :: _ => Option.none)
  | [] => Option.none)
 | false => oo tg v loc
end
end
section
def Oh {R : Type} (x : Option R) (f : R -> Prop) : Prop := match x with
 | some r => f r
 | none => False
def WO {α β : Type} (x : Option (α × β)) (Q : α -> β -> Prop) : Prop := Oh x fun r => Q r.1 r.2
@[simp] theorem WO_some {α β : Type} {a : α} {b : β} {Q : α -> β -> Prop} : WO (some (a, b)) Q = Q a b := rfl
theorem sS {R : Type} {x : Option R} {f : R -> Prop} {G : Prop} (h : Oh x f) (g : ∀ r, x = some r -> f r -> G) : G := by
 cases x with
 | none => exact h.elim
 | some r => exact g r rfl h
theorem bz {α β : Type} {x : Option (α × β)} {Q : α -> β -> Prop} {G : Prop} (h : WO x Q) (g : ∀ a b, x = some (a, b) -> Q a b -> G) : G := sS h fun r => g r.1 r.2
theorem wg {α β : Type} {x : Option (α × β)} {Q R : α -> β -> Prop} (h : WO x Q) (k : ∀ a b, Q a b -> R a b) : WO x R :=
 bz h fun a b e q => by rw [e]; exact k a b q
theorem AW {α β : Type} {x : Option (α × β)} {Q : α -> β -> Prop} (h : WO x Q) : ∃ a b, x = some (a, b) /\ Q a b := bz h fun a b e q => ⟨a, b, e, q⟩
@[simp] noncomputable def onFl (Qn : Loc -> AH -> Prop) (Qr : V -> Loc -> AH -> Prop) : Fl -> Loc -> AH -> Prop
 | .next, l, H => Qn l H
 | .ret v, l, H => Qr v l H
noncomputable section
noncomputable def dJ {α : Type} : α -> α := PV (⟨id, rfl⟩ : ∃ f : α -> α, f = id)
theorem eC {α : Type} (a : α) : dJ a = a := congrFun (PY (⟨id, rfl⟩ : ∃ f : α -> α, f = id)) a
noncomputable def hg1 : Nat := 0
noncomputable def ut : Nat := hg1
noncomputable def hg3 : Nat := ut
noncomputable def hg4 : Nat := hg3
noncomputable def aF : Nat := hg4
def jk (x : V) (Q : Bool -> Prop) : Prop := (fun u' : Nat => match x with | .bool k => Q k | _ => False) aF
def lX (x : V) (Q : Int -> Prop) : Prop := (fun u' : Nat => match x with | .int k => Q k | _ => False) aF
def rS (x : V) (Q : Nat -> Prop) : Prop := (fun u' : Nat => match x with | .ref k => Q k | _ => False) aF
def s7 (x : V) (Q : ac -> Prop) : Prop := (fun u' : Nat => match x with | .str k => Q k | _ => False) aF
def zR {α : Type} (x : Option α) (Q : α -> Prop) : Prop := match x with | some k => Q k | none => False
def c7 {α : Type} (x : Option α) (Q : α -> Prop) : Prop := dJ (zR x Q)
theorem zV {α : Type} {x : Option α} {Q : α -> Prop} : c7 x Q = zR x Q := eC _
def jW {α β : Type} (x : Option (α × β)) (Q : α -> β -> Prop) : Prop := dJ (WO x Q)
theorem Aw {α β : Type} {x : Option (α × β)} {Q : α -> β -> Prop} : jW x Q = WO x Q := eC _
@[simp] theorem oWO_some {α β : Type} {a : α} {b : β} {Q : α -> β -> Prop} : jW (some (a, b)) Q = Q a b := eC _
def ow {α : Type} (x : Option (Option α)) (Q : α -> Prop) : Prop := (fun u' : Nat => match x with | some (some k) => Q k | _ => False) aF
def jY (x : Option ar) (Q : List V -> Prop) : Prop := (fun u' : Nat => match x with | some (.list l) => Q l | _ => False) aF
def p9 (x : Option ar) (Q : List (Int × V) -> Prop) : Prop := (fun u' : Nat => match x with | some (.dict l) => Q l | _ => False) aF
@[simp] theorem isB_bool {k : Bool} {Q : Bool -> Prop} : jk (.bool k) Q = Q k := rfl
@[simp] theorem isI_int {k : Int} {Q : Int -> Prop} : lX (.int k) Q = Q k := rfl
@[simp] theorem isR_ref {k : Nat} {Q : Nat -> Prop} : rS (.ref k) Q = Q k := rfl
@[simp] theorem isT_str {k : ac} {Q : ac -> Prop} : s7 (.str k) Q = Q k := rfl
@[simp] theorem isS_some {α : Type} {k : α} {Q : α -> Prop} : c7 (some k) Q = Q k := eC _
@[simp] theorem isSS_some {α : Type} {k : α} {Q : α -> Prop} : ow (some (some k)) Q = Q k := rfl
@[simp] theorem isLs_list {l : List V} {Q : List V -> Prop} : jY (some (.list l)) Q = Q l := rfl
@[simp] theorem isDc_dict {l : List (Int × V)} {Q : List (Int × V) -> Prop} : p9 (some (.dict l)) Q = Q l := rfl
theorem ab {α : Type} {x : Option α} {k : α} {Q : α -> Prop} (h : x = some k) (q : Q k) : c7 x Q := by
 rw [h, isS_some]; exact q
noncomputable def eP (H : AH) (v : V) (k : Nat) : Option V := oR v fun i => kY (ag H i) fun u' j => kJ (ag H j) fun m => jn m[k]?
noncomputable def iZ (H : AH) (u : V) (k : Nat) (v : V) : Option AH := oR u fun i => kY (ag H i) fun u' j => kJ (ag H j) fun m => some (H.set j (.attrs (m.set k (some v))))
noncomputable def gL (H : AH) (a b v : V) : Option AH := oR a fun i => oI b fun k => iW (ag H i) (fun l => if 0 <= k && decide (k < l.length) then some (H.set i (.list (l.set k.toNat v))) else none)
 (fun l => if l.length < 4096 then some (H.set i (.dict (dictPut l k v))) else none)
@[simp] def kOf2 (i : Nat) (H : AH) (Q : List V -> Option (Nat × List V) -> AH -> Prop) (l : List V) : Prop := (fun u' : Nat => Q l (some (i, l)) H) aF
@[simp] def kEn2 (i : Nat) (H : AH) (Q : List V -> Option (Nat × List V) -> AH -> Prop) (l : List V) : Prop := (fun u' : Nat => Q (l.zipIdx.map fun p => V.tup [.int (p.2 : Int), p.1]) (some (i, l)) H) aF
def pn (H : AH) (v : V) (Qi : List V -> Option (Nat × List V) -> AH -> Prop) : Prop := match v with
 | .ref i => jY (ag H i) (kOf2 i H Qi)
 | .lst l => Qi l none H
 | .tup l => Qi l none H
 | _ => False
def rt (H : AH) (v : V) (Qi : List V -> Option (Nat × List V) -> AH -> Prop) : Prop := match v with
 | .ref i => jY (ag H i) (kEn2 i H Qi)
 | .lst l => l.all V.isInt = false /\ Qi (l.zipIdx.map fun p => V.tup [.int (p.2 : Int), p.1]) none H
 | _ => False
def cO (H : AH) (Q : V -> AH -> Prop) (v : V) (H' : AH) : Prop := if (v.noRef && decide (H'.take H.length = H)) = true then Q v H else Q v H'
noncomputable abbrev KV := V -> AH -> Prop
noncomputable abbrev c9 := List V -> AH -> Prop
noncomputable abbrev KO := Option V -> AH -> Prop
noncomputable abbrev KB := Bool -> AH -> Prop
noncomputable abbrev KX := Fl -> Loc -> AH -> Prop
noncomputable abbrev KL := Loc -> AH -> Prop
noncomputable abbrev Gd := Option (Nat × List V)
noncomputable abbrev KI := List V -> Gd -> AH -> Prop
noncomputable abbrev T (K : Type) := Loc -> AH -> K -> Prop
noncomputable abbrev PE := E -> T KV
noncomputable abbrev PX := S -> T KX
noncomputable abbrev PC := Nat -> List V -> AH -> KV -> Prop
structure PR where
 e : PE
 x : PX
 c : PC
@[simp] def kCon2 (v : V) (Q : c9) (vs : List V) (H : AH) : Prop := (fun u' : Nat => Q (v :: vs) H) aF
@[simp] def kCon (f : T c9) (loc : Loc) (Q : c9) (v : V) (H : AH) : Prop := (fun u' : Nat => f loc H (kCon2 v Q)) aF
@[simp] def kAt (H : AH) (Q : KV) (v : V) : Prop := (fun u' : Nat => Q v H) aF
@[simp] def kTup (Q : KV) (vs : List V) (H : AH) : Prop := (fun u' : Nat => Q (.tup vs) H) aF
@[simp] def kLsT (t : Bool) (Q : KV) (vs : List V) (H : AH) : Prop := (fun u' : Nat => Q (bh H t vs).1 (bh H t vs).2) aF
@[simp] def kSel3 (ks : List ac) (vs : List V) (H : AH) (Q : KV) (x : ac) : Prop := (fun u' : Nat => c7 ((ks.zip vs).lookup x) (kAt H Q)) aF
@[simp] def kSel2 (ks : List ac) (vs : List V) (Q : KV) (k : V) (H : AH) : Prop := (fun u' : Nat => s7 k (kSel3 ks vs H Q)) aF
@[simp] def kSel1 (e : T KV) (ks : List ac) (loc : Loc) (Q : KV) (vs : List V) (H : AH) : Prop := (fun u' : Nat => e loc H (kSel2 ks vs Q)) aF
@[simp] def kAttr (k : Nat) (Q : KV) (v : V) (H : AH) : Prop := (fun u' : Nat => c7 (eP H v k) (kAt H Q)) aF
@[simp] def kSub2 (x : V) (Q : KV) (y : V) (H : AH) : Prop := (fun u' : Nat => c7 (cf H x y) (kAt H Q)) aF
@[simp] def kSub1 (e : T KV) (loc : Loc) (Q : KV) (x : V) (H : AH) : Prop := (fun u' : Nat => e loc H (kSub2 x Q)) aF
@[simp] def kSome (Q : KO) (v : V) (H : AH) : Prop := (fun u' : Nat => Q (some v) H) aF
@[simp] def kSl6 (t : Bool) (H : AH) (xs : List V) (l' : Option Nat) (Q : KV) (h' : Option Nat) : Prop := (fun u' : Nat => Q (bh H t (d6 xs l' h')).1 (bh H t (d6 xs l' h')).2) aF
@[simp] def kSl5 (t : Bool) (H : AH) (xs : List V) (h : Option V) (Q : KV) (l' : Option Nat) : Prop := (fun u' : Nat => c7 (fN h) (kSl6 t H xs l' Q)) aF
@[simp] def kSl4 (t : Bool) (H : AH) (l h : Option V) (Q : KV) (xs : List V) : Prop := (fun u' : Nat => c7 (fN l) (kSl5 t H xs h Q)) aF
@[simp] def kSl3 (t : Bool) (v : V) (l : Option V) (Q : KV) (h : Option V) (H : AH) : Prop := (fun u' : Nat => c7 (bK H v) (kSl4 t H l h Q)) aF
@[simp] def kSl2 (hi : T KO) (t : Bool) (loc : Loc) (v : V) (Q : KV) (l : Option V) (H : AH) : Prop := (fun u' : Nat => hi loc H (kSl3 t v l Q)) aF
@[simp] def kSl1 (lo hi : T KO) (t : Bool) (loc : Loc) (Q : KV) (v : V) (H : AH) : Prop := (fun u' : Nat => lo loc H (kSl2 hi t loc v Q)) aF
@[simp] def kBin2 (op : Op) (x : V) (Q : KV) (y : V) (H : AH) : Prop := (fun u' : Nat => jW (hO H op x y) Q) aF
@[simp] def kBin1 (e : T KV) (op : Op) (loc : Loc) (Q : KV) (x : V) (H : AH) : Prop := (fun u' : Nat => e loc H (kBin2 op x Q)) aF
@[simp] def kNeg2 (H : AH) (Q : KV) (k : Int) : Prop := (fun u' : Nat => Q (.int (-k)) H) aF
@[simp] def kNeg (Q : KV) (x : V) (H : AH) : Prop := (fun u' : Nat => lX x (kNeg2 H Q)) aF
@[simp] def kNot2 (H : AH) (Q : KV) (k : Bool) : Prop := (fun u' : Nat => Q (.bool (!k)) H) aF
@[simp] def kNot (Q : KV) (x : V) (H : AH) : Prop := (fun u' : Nat => jk x (kNot2 H Q)) aF
@[simp] def kBool (H : AH) (Q : KV) (t : Bool) : Prop := (fun u' : Nat => Q (.bool t) H) aF
@[simp] def kCmp2 (op : Cm) (x : V) (Q : KV) (y : V) (H : AH) : Prop := (fun u' : Nat => c7 (bF H op x y) (kBool H Q)) aF
@[simp] def kCmp1 (e : T KV) (op : Cm) (loc : Loc) (Q : KV) (x : V) (H : AH) : Prop := (fun u' : Nat => e loc H (kCmp2 op x Q)) aF
@[simp] def kB1 (Q : KV) (x : V) (H : AH) : Prop := (fun u' : Nat => jk x (kBool H Q)) aF
@[simp] def kB2 (f : T KV) (a : Bool) (loc : Loc) (H : AH) (Q : KV) (b : Bool) : Prop := (fun u' : Nat => if b = a then f loc H Q else Q (.bool b) H) aF
@[simp] def kB (f : T KV) (a : Bool) (loc : Loc) (Q : KV) (x : V) (H : AH) : Prop := (fun u' : Nat => jk x (kB2 f a loc H Q)) aF
@[simp] def kIf2 (f g : T KV) (loc : Loc) (H : AH) (Q : KV) (k : Bool) : Prop := (fun u' : Nat => if k = true then f loc H Q else g loc H Q) aF
@[simp] def kIf (f g : T KV) (loc : Loc) (Q : KV) (x : V) (H : AH) : Prop := (fun u' : Nat => jk x (kIf2 f g loc H Q)) aF
@[simp] def kFn (c : PC) (f : Nat) (Q : KV) (vs : List V) (H : AH) : Prop := (fun u' : Nat => c f vs H Q) aF
@[simp] def kNew2 (i : Nat) (Q : KV) (v : V) (H : AH) : Prop := (fun u' : Nat => v = .none /\ Q (.ref i) H) aF
def wK (P : cn) (p : PC) (c : Nat) (H : AH) (Q : KV) (f : Nat) : Prop := (fun u' : Nat => p f [.ref H.length] (H ++ [.inst c (H.length + 1), .attrs (fJ P.nattr none)]) (kNew2 H.length Q)) aF
@[simp] def kBi (b : Bi) (Q : KV) (vs : List V) (H : AH) : Prop := (fun u' : Nat => jW (dq H b vs) Q) aF
def y8 (x : Option ar) (K : ar -> Prop) : Prop := match x with | some o => K o | none => False
def gO (x : Option ar) (K : ar -> Prop) : Prop := dJ (y8 x K)
theorem zo {x : Option ar} {K : ar -> Prop} : gO x K = y8 x K := eC _
@[simp] theorem isO_some {o : ar} {K : ar -> Prop} : gO (some o) K = K o := eC _
@[simp] def kMl2 (H : AH) (i m : Nat) (vs : List V) (Q : KV) (l : List V) : Prop := (fun u' : Nat => jW (dB H i l m vs) Q) aF
@[simp] def kMl (i m : Nat) (Q : KV) (vs : List V) (H : AH) : Prop := (fun u' : Nat => jY (ag H i) (kMl2 H i m vs Q)) aF
@[simp] def kMd2 (H : AH) (i m : Nat) (vs : List V) (Q : KV) (l : List (Int × V)) : Prop := (fun u' : Nat => jW (gQ H i l m vs) Q) aF
@[simp] def kMd (i m : Nat) (Q : KV) (vs : List V) (H : AH) : Prop := (fun u' : Nat => p9 (ag H i) (kMd2 H i m vs Q)) aF
@[simp] def kMi4 (c : PC) (f i : Nat) (Q : KV) (vs : List V) (H : AH) : Prop := (fun u' : Nat => c f (.ref i :: vs) H Q) aF
@[simp] def kMi3 (c : PC) (es : T c9) (i : Nat) (loc : Loc) (H : AH) (Q : KV) (f : Nat) : Prop := (fun u' : Nat => es loc H (kMi4 c f i Q)) aF
def wd (P : cn) (c : PC) (es : T c9) (i k m : Nat) (loc : Loc) (H : AH) (Q : KV) (o : ar) : Prop := match o with | .attrs _ => c7 (P.meth k m) (kMi3 c es i loc H Q) | _ => False
def kM (P : cn) (c : PC) (es : T c9) (i m : Nat) (loc : Loc) (H : AH) (Q : KV) (o : ar) : Prop := match o with
 | .list _ => es loc H (kMl i m Q)
 | .dict _ => es loc H (kMd i m Q)
 | .inst k j => gO (ag H j) (wd P c es i k m loc H Q)
 | .attrs _ => False
def yI (P : cn) (c : PC) (es : T c9) (m : Nat) (loc : Loc) (H : AH) (Q : KV) (i : Nat) : Prop := gO (ag H i) (kM P c es i m loc H Q)
@[simp] def kMe (P : cn) (c : PC) (es : T c9) (m : Nat) (loc : Loc) (Q : KV) (v : V) (H : AH) : Prop := (fun u' : Nat => rS v (yI P c es m loc H Q)) aF
@[simp] def kCp2 (t : Bool) (Q : KV) (xs : List V) (H : AH) : Prop := (fun u' : Nat => Q (bh H t xs).1 (bh H t xs).2) aF
@[simp] def kCp (f : Gd -> List V -> T c9) (t : Bool) (base k : Nat) (loc : Loc) (Q : KV) (items : List V) (g : Gd) (H : AH) : Prop := (fun u' : Nat => (loc.length = base /\ items.length < 4096) /\ f g items (loc ++ fJ k none) H (kCp2 t Q)) aF
@[simp] def kR12 (H : AH) (Q : KI) (k : Int) : Prop := (fun u' : Nat => k.natAbs < 4096 /\ Q ((bQ k.toNat).map fun (k : Nat) => V.int (k : Int)) none H) aF
@[simp] def kR1 (Q : KI) (v : V) (H : AH) : Prop := (fun u' : Nat => lX v (kR12 H Q)) aF
@[simp] def kR2d (H : AH) (m : Int) (Q : KI) (k : Int) : Prop := (fun u' : Nat => (k.natAbs < 4096 /\ m.natAbs < 4096) /\ Q ((bQ (k - m).toNat).map fun (j : Nat) => V.int (m + (j : Int))) none H) aF
@[simp] def kR2c (H : AH) (y : V) (Q : KI) (m : Int) : Prop := (fun u' : Nat => lX y (kR2d H m Q)) aF
@[simp] def kR2b (x : V) (Q : KI) (y : V) (H : AH) : Prop := (fun u' : Nat => lX x (kR2c H y Q)) aF
@[simp] def kR2a (e : T KV) (loc : Loc) (Q : KI) (x : V) (H : AH) : Prop := (fun u' : Nat => e loc H (kR2b x Q)) aF
@[simp] def kOf (Q : KI) (v : V) (H : AH) : Prop := (fun u' : Nat => pn H v Q) aF
@[simp] def kEn (Q : KI) (v : V) (H : AH) : Prop := (fun u' : Nat => rt H v Q) aF
@[simp] def kT2 (f : T KB) (loc : Loc) (H : AH) (Q : KB) (b : Bool) : Prop := (fun u' : Nat => if b = true then f loc H Q else Q false H) aF
@[simp] def kT (f : T KB) (loc : Loc) (Q : KB) (x : V) (H : AH) : Prop := (fun u' : Nat => jk x (kT2 f loc H Q)) aF
@[simp] def kCo3 (f : T c9) (loc : Loc) (Q : c9) (x : V) (H : AH) : Prop := (fun u' : Nat => f loc H (kCon2 x Q)) aF
@[simp] def kCo2 (e : T KV) (f : T c9) (loc : Loc) (Q : c9) (b : Bool) (H : AH) : Prop := (fun u' : Nat => if b = true then e loc H (kCo3 f loc Q) else f loc H Q) aF
@[simp] def kCo (t : T KB) (e : T KV) (f : T c9) (H : AH) (Q : c9) (loc : Loc) : Prop := (fun u' : Nat => t loc H (kCo2 e f loc Q)) aF
noncomputable def dn (f : T KX) (Q : KX) : KX
 | .next, l, H => f l H Q
 | .ret v, l, H => Q (.ret v) l H
@[simp] def kEx (loc : Loc) (Q : KX) (_ : V) (H : AH) : Prop := (fun u' : Nat => Q .next loc H) aF
@[simp] def kNx (Q : KX) (loc : Loc) (H : AH) : Prop := (fun u' : Nat => Q .next loc H) aF
@[simp] def kAs (f : V -> T KL) (loc : Loc) (Q : KX) (v : V) (H : AH) : Prop := (fun u' : Nat => f v loc H (kNx Q)) aF
@[simp] def kAts (f : List V -> T KL) (loc : Loc) (Q : KX) (vs : List V) (H : AH) : Prop := (fun u' : Nat => f vs loc H (kNx Q)) aF
@[simp] def kRet (loc : Loc) (Q : KX) (v : V) (H : AH) : Prop := (fun u' : Nat => Q (.ret v) loc H) aF
@[simp] def kXi2 (f g : T KX) (loc : Loc) (H : AH) (Q : KX) (k : Bool) : Prop := (fun u' : Nat => if k = true then f loc H Q else g loc H Q) aF
@[simp] def kXi (f g : T KX) (loc : Loc) (Q : KX) (x : V) (H : AH) : Prop := (fun u' : Nat => jk x (kXi2 f g loc H Q)) aF
@[simp] def kWh2 (f g : T KX) (loc : Loc) (H : AH) (Q : KX) (k : Bool) : Prop := (fun u' : Nat => if k = true then f loc H (dn g Q) else Q .next loc H) aF
@[simp] def kWh (f g : T KX) (loc : Loc) (Q : KX) (x : V) (H : AH) : Prop := (fun u' : Nat => jk x (kWh2 f g loc H Q)) aF
@[simp] def kFr (f : Gd -> List V -> T KX) (loc : Loc) (Q : KX) (items : List V) (g : Gd) (H : AH) : Prop := (fun u' : Nat => f g items loc H Q) aF
@[simp] def kFo (f g : T KX) (Q : KX) (loc : Loc) (H : AH) : Prop := (fun u' : Nat => f loc H (dn g Q)) aF
@[simp] def kLoc (H : AH) (Q : KL) (loc : Loc) : Prop := (fun u' : Nat => Q loc H) aF
@[simp] def kSa (k : Nat) (v : V) (loc : Loc) (Q : KL) (u : V) (H : AH) : Prop := (fun u' : Nat => c7 (iZ H u k v) (Q loc)) aF
@[simp] def kSs2 (x v : V) (loc : Loc) (Q : KL) (y : V) (H : AH) : Prop := (fun u' : Nat => c7 (gL H x y v) (Q loc)) aF
@[simp] def kSs1 (e : T KV) (v : V) (loc : Loc) (Q : KL) (x : V) (H : AH) : Prop := (fun u' : Nat => e loc H (kSs2 x v loc Q)) aF
@[simp] def kSts (f : List V -> T KL) (vs : List V) (Q : KL) (loc : Loc) (H : AH) : Prop := (fun u' : Nat => f vs loc H Q) aF
@[simp] def kEnd (H : AH) (Q : KV) (fl : Fl) (_ : Loc) (H' : AH) : Prop := (fun u' : Nat => cO H Q fl.val H') aF
noncomputable def fj (e : PE) : List E -> T c9
 | [], _, H, Q => Q [] H
 | a :: r, loc, H, Q => e a loc H (kCon (fj e r) loc Q)
noncomputable def iX (e : PE) : Option E -> T KO
 | none, _, H, Q => Q none H
 | some a, loc, H, Q => e a loc H (kSome Q)
noncomputable def pB (e : PE) (Sl : Bool) : List E -> T KV
 | [], _, _, _ => False
 | [a], loc, H, Q => e a loc H (kB1 Q)
 | a :: a' :: r, loc, H, Q => e a loc H (kB (pB e Sl (a' :: r)) Sl loc Q)
noncomputable def pT (e : PE) : List E -> T KB
 | [], _, H, Q => Q true H
 | a :: r, loc, H, Q => e a loc H (kT (pT e r) loc Q)
def lK (e : PE) (it : It) (loc : Loc) (H : AH) (Q : KI) : Prop := match it with
 | .range1 a => e a loc H (kR1 Q)
 | .range2 a b => e a loc H (kR2a (e b) loc Q)
 | .enum a => e a loc H (kEn Q)
 | .of a => e a loc H (kOf Q)
noncomputable def ie (e : PE) (elt : E) (tg : List Nat) (one : Bool) (ifs : List E) (g : Gd) : List V -> T c9
 | [], _, H, Q => bU g H = true /\ Q [] H
 | v :: r, loc, H, Q => bU g H = true /\ c7 (iL tg one v loc) (kCo (pT e ifs) (e elt) (ie e elt tg one ifs g r) H Q)
def jM (e : PE) (t : Tg) (v : V) (loc : Loc) (H : AH) (Q : KL) : Prop := match t with
 | .name i => Q (loc.set i (some v)) H
 | .names l => c7 (oo l v loc) (kLoc H Q)
 | .attr a k => e a loc H (kSa k v loc Q)
 | .sub a b => e a loc H (kSs1 (e b) v loc Q)
noncomputable def jZ (e : PE) : List Tg -> List V -> T KL
 | [], [], loc, H, Q => Q loc H
 | t :: ts, v :: vs, loc, H, Q => jM e t v loc H (kSts (jZ e ts) vs Q)
 | _, _, _, _, _ => False
noncomputable def bY (x : PX) : List S -> T KX
 | [], loc, H, Q => Q .next loc H
 | s :: r, loc, H, Q => x s loc H (dn (bY x r) Q)
noncomputable def eM (e : PE) (b : T KX) (t : Tg) (g : Gd) : List V -> T KX
 | [], loc, H, Q => bU g H = true /\ Q .next loc H
 | v :: r, loc, H, Q => bU g H = true /\ jM e t v loc H (kFo b (eM e b t g r) Q)
def nH (P : cn) (p : PR) (e : E) (loc : Loc) (H : AH) (Q : KV) : Prop := match e with
 | .const v => Q v H
 | .loc i => ow loc[i]? (kAt H Q)
 | .tup es => fj p.e es loc H (kTup Q)
 | .list t es => fj p.e es loc H (kLsT t Q)
 | .edict => Q (.ref H.length) (H ++ [.dict []])
 | .dictSel ks es s => fj p.e es loc H (kSel1 (p.e s) ks loc Q)
 | .attr e k => p.e e loc H (kAttr k Q)
 | .sub a b => p.e a loc H (kSub1 (p.e b) loc Q)
 | .slice t a lo hi => p.e a loc H (kSl1 (iX p.e lo) (iX p.e hi) t loc Q)
 | .bin op a b => p.e a loc H (kBin1 (p.e b) op loc Q)
 | .neg a => p.e a loc H (kNeg Q)
 | .not a => p.e a loc H (kNot Q)
 | .cmp op a b => p.e a loc H (kCmp1 (p.e b) op loc Q)
 | .bop Sl es => pB p.e Sl es loc H Q
 | .ite t a b => p.e t loc H (kIf (p.e a) (p.e b) loc Q)
 | .fn f es => fj p.e es loc H (kFn p.c f Q)
 | .new c => c7 (P.init c) (wK P p.c c H Q)
 | .bi b es => fj p.e es loc H (kBi b Q)
 | .meth o m es => p.e o loc H (kMe P p.c (fj p.e es) m loc Q)
 | .comp t elt tg one it ifs base k => lK p.e it loc H (kCp (ie p.e elt tg one ifs) t base k loc Q)
 | .bad => False
def mf (p : PR) (s : S) (loc : Loc) (H : AH) (Q : KX) : Prop := match s with
 | .expr e => p.e e loc H (kEx loc Q)
 | .assign t e => p.e e loc H (kAs (jM p.e t) loc Q)
 | .assignTup ts es => fj p.e es loc H (kAts (jZ p.e ts) loc Q)
 | .ret none => Q (.ret .none) loc H
 | .ret (some e) => p.e e loc H (kRet loc Q)
 | .ite t a b => p.e t loc H (kXi (bY p.x a) (bY p.x b) loc Q)
 | .whil t b => p.e t loc H (kWh (bY p.x b) (p.x (.whil t b)) loc Q)
 | .for_ t it b => lK p.e it loc H (kFr (eM p.e (bY p.x b) t) loc Q)
 | .bad => False
def pI (P : cn) (p : PR) (f : Nat) (vs : List V) (H : AH) (Q : KV) : Prop := c7 P.fns[f]? fun fr => vs.length = fr.np /\ bY p.x fr.body (vs.map some ++ fJ (fr.nloc - fr.np) none) H (kEnd H Q)
noncomputable def Gi (P : cn) (p : PR) : PR := ⟨nH P p, mf p, pI P p⟩
noncomputable def PW (P : cn) : Nat -> PR := Nat.rec ⟨fun u' u' u' u' => False, fun u' u' u' u' => False, fun u' u' u' u' => False⟩ fun u' p => Gi P p
noncomputable abbrev cv {α β : Type} (Q : α -> β -> Prop) (r : α × β) : Prop := Q r.1 r.2
noncomputable abbrev dD {α β γ : Type} (Q : α -> β -> γ -> Prop) (r : α × β × γ) : Prop := Q r.1 r.2.1 r.2.2
def Fn {R K : Type} (ap : K -> R -> Prop) (p : K -> Prop) : Prop := ∃ x : Option R, p = fun Q => Oh x (ap Q)
noncomputable def the {R K : Type} (ap : K -> R -> Prop) (p : K -> Prop) : Option R := Classical.epsilon fun x => p = fun Q => Oh x (ap Q)
section
variable {R R' K K' : Type} {ap : K -> R -> Prop} {Zj : K' -> R' -> Prop} {p : K -> Prop}
theorem qb (h : Fn ap p) : p = fun Q => Oh (the ap p) (ap Q) := Classical.epsilon_spec h
theorem kx (h : Fn ap p) (Q : K) : p Q = Oh (the ap p) (ap Q) := congrFun (qb h) Q
theorem bp (r : R) : Fn ap fun Q => ap Q r := ⟨some r, rfl⟩
theorem dv : Fn ap fun u' => False := ⟨none, rfl⟩
theorem Bd (x : Option R) : Fn ap fun Q => Oh x (ap Q) := ⟨x, rfl⟩
theorem aU {p : K' -> Prop} (h : Fn Zj p) (c : K -> K') (k : ∀ r, Fn ap fun Q => Zj (c Q) r) : Fn ap fun Q => p (c Q) := by
 obtain ⟨x, rfl⟩ := h
 cases x with
 | none => exact dv
 | some r => exact k r
theorem gB {x : Option R'} {c : K -> R' -> Prop} (k : ∀ r, Fn ap fun Q => c Q r) : Fn ap fun Q => c7 x (c Q) := by
 simp only [zV]
 cases x with
 | none => exact dv
 | some r => exact k r
theorem y9 {x : Option ar} {c : K -> ar -> Prop} (k : ∀ r, Fn ap fun Q => c Q r) : Fn ap fun Q => gO x (c Q) := by
 simp only [zo]
 cases x with
 | none => exact dv
 | some r => exact k r
theorem jh {c : Prop} (h : Fn ap p) : Fn ap fun Q => c /\ p Q := by
 by_cases q : c
 ·simp only [q, true_and]; exact h
 ·simp only [q, false_and]; exact dv
theorem lZ {c : Prop} [Decidable c] {q : K -> Prop} (h : Fn ap p) (k : Fn ap q) : Fn ap fun Q => if c then p Q else q Q := by
 split
 ·exact h
 ·exact k
theorem mo {x : V} {c : K -> Bool -> Prop} (k : ∀ r, Fn ap fun Q => c Q r) : Fn ap fun Q => jk x (c Q) := by
 cases x with
 | bool b => exact k b
 | _ => exact dv
theorem rX {x : V} {c : K -> Int -> Prop} (k : ∀ r, Fn ap fun Q => c Q r) : Fn ap fun Q => lX x (c Q) := by
 cases x with
 | int b => exact k b
 | _ => exact dv
theorem Jk {x : V} {c : K -> Nat -> Prop} (k : ∀ r, Fn ap fun Q => c Q r) : Fn ap fun Q => rS x (c Q) := by
 cases x with
 | ref b => exact k b
 | _ => exact dv
theorem Fe {x : V} {c : K -> ac -> Prop} (k : ∀ r, Fn ap fun Q => c Q r) : Fn ap fun Q => s7 x (c Q) := by
 cases x with
 | str b => exact k b
 | _ => exact dv
theorem OC {x : Option (Option R')} {c : K -> R' -> Prop} (k : ∀ r, Fn ap fun Q => c Q r) : Fn ap fun Q => ow x (c Q) := by
 rcases x with _ | _ | r
 ·exact dv
 ·exact dv
 ·exact k r
theorem vS {x : Option ar} {c : K -> List V -> Prop} (k : ∀ r, Fn ap fun Q => c Q r) : Fn ap fun Q => jY x (c Q) := by
 rcases x with _ | o
 ·exact dv
 ·cases o with
  | list l => exact k l
  | _ => exact dv
theorem L5 {x : Option ar} {c : K -> List (Int × V) -> Prop} (k : ∀ r, Fn ap fun Q => c Q r) : Fn ap fun Q => p9 x (c Q) := by
 rcases x with _ | o
 ·exact dv
 ·cases o with
  | dict l => exact k l
  | _ => exact dv
end
theorem yv {α β : Type} (x : Option (α × β)) : Fn cv fun Q => WO x Q := ⟨x, rfl⟩
theorem rh {α β : Type} (x : Option (α × β)) : Fn cv fun Q => jW x Q := by simp only [Aw]; exact yv x
noncomputable abbrev Ev := E -> Loc -> AH -> Option (V × AH)
noncomputable def dU (ev : Ev) : PE := fun e loc H Q => WO (ev e loc H) Q
def gq (e : PE) : Prop := ∀ a loc H, Fn cv (e a loc H)
def pL (x : PX) : Prop := ∀ s loc H, Fn dD (x s loc H)
def vn (c : PC) : Prop := ∀ f vs H, Fn cv (c f vs H)
theorem bL (ev : Ev) : gq (dU ev) := fun e loc H => yv (ev e loc H)
section
variable {e : PE} {x : PX} {c : PC}
theorem gl (he : gq e) : ∀ es loc H, Fn cv (fj e es loc H) := by
 intro es
 induction es with
 | nil =>
  intro _ H
  exact bp (([], H) : List V × AH)
 | cons a r iH =>
  intro loc H
  exact aU (he a loc H) (kCon (fj e r) loc) fun v => aU (iH loc v.2) (kCon2 v.1) fun vs => bp (v.1 :: vs.1, vs.2)
theorem pY (he : gq e) : ∀ o loc H, Fn cv (iX e o loc H)
 | none, _, H => bp ((none, H) : Option V × AH)
 | some a, loc, H => aU (he a loc H) kSome fun v => bp (some v.1, v.2)
theorem ou (he : gq e) (i : Bool) : ∀ es loc H, Fn cv (pB e i es loc H) := by
 intro es
 induction es with
 | nil =>
  intro _ _
  exact dv
 | cons a Se iH =>
  cases Se with
  | nil =>
   intro loc H
   exact aU (he a loc H) kB1 fun v => mo fun b => bp (V.bool b, v.2)
  | cons a' r =>
   intro loc H
   exact aU (he a loc H) (kB (pB e i (a' :: r)) i loc) fun v => mo fun b => lZ (iH loc v.2) (bp (V.bool b, v.2))
theorem oh (he : gq e) : ∀ es loc H, Fn cv (pT e es loc H) := by
 intro es
 induction es with
 | nil =>
  intro _ H
  exact bp (true, H)
 | cons a r iH =>
  intro loc H
  exact aU (he a loc H) (kT (pT e r) loc) fun v => mo fun b => lZ (iH loc v.2) (bp (false, v.2))
theorem Fv (H : AH) (v : V) : Fn dD (rt H v) := by
 cases v with
 | ref i => exact vS fun l => bp (_, some (i, l), H)
 | lst l => exact jh (bp (_, none, H))
 | _ => exact dv
theorem Hy (H : AH) (v : V) : Fn dD (pn H v) := by
 cases v with
 | ref i => exact vS fun l => bp (l, some (i, l), H)
 | lst l => exact bp (l, none, H)
 | tup l => exact bp (l, none, H)
 | _ => exact dv
theorem lI (he : gq e) (it : It) (loc : Loc) (H : AH) : Fn dD (lK e it loc H) := by
 cases it with
 | range1 a => exact aU (he a loc H) kR1 fun v => rX fun k => jh (bp (_, none, v.2))
 | range2 a b => exact aU (he a loc H) (kR2a (e b) loc) fun v => aU (he b loc v.2) (kR2b v.1) fun u => rX fun m => rX fun k => jh (bp (_, none, u.2))
 | enum a => exact aU (he a loc H) kEn fun v => Fv v.2 v.1
 | of a => exact aU (he a loc H) kOf fun v => Hy v.2 v.1
theorem pC (he : gq e) {elt : E} {tg : List Nat} {one : Bool} {ifs : List E} {g : Gd} : ∀ l loc H, Fn cv (ie e elt tg one ifs g l loc H) := by
 intro l
 induction l with
 | nil =>
  intro _ H
  exact jh (bp (([], H) : List V × AH))
 | cons v r iH =>
  intro loc H
  exact jh (gB fun Sc => aU (oh he ifs Sc H) (kCo2 (e elt) (ie e elt tg one ifs g r) Sc) fun b => lZ (aU (he elt Sc b.2) (kCo3 (ie e elt tg one ifs g r) Sc) fun x => aU (iH Sc x.2) (kCon2 x.1) fun xs => bp (x.1 :: xs.1, xs.2)) (iH Sc b.2))
theorem kH (he : gq e) (t : Tg) (v : V) (loc : Loc) (H : AH) : Fn cv (jM e t v loc H) := by
 cases t with
 | name i => exact bp (loc.set i (some v), H)
 | names l => exact gB fun l => bp (l, H)
 | attr a k => exact aU (he a loc H) (kSa k v loc) fun u => gB fun H1 => bp (loc, H1)
 | sub a b => exact aU (he a loc H) (kSs1 (e b) v loc) fun u => aU (he b loc u.2) (kSs2 u.1 v loc) fun y => gB fun H1 => bp (loc, H1)
theorem nP (he : gq e) : ∀ ts vs loc H, Fn cv (jZ e ts vs loc H)
 | [], [], loc, H => bp (loc, H)
 | t :: ts, v :: vs, loc, H => aU (kH he t v loc H) (kSts (jZ e ts) vs) fun l => nP he ts vs l.1 l.2
 | [], _ :: _, _, _ | _ :: _, [], _, _ => dv
theorem wM {f : T KX} (hf : ∀ loc H, Fn dD (f loc H)) {q : Fl × Loc × AH} : Fn dD fun Q => dn f Q q.1 q.2.1 q.2.2 := by
 obtain ⟨fl, l, H⟩ := q
 cases fl with
 | next => exact hf l H
 | ret v => exact bp (Fl.ret v, l, H)
theorem gP (hx : pL x) : ∀ ss loc H, Fn dD (bY x ss loc H) := by
 intro ss
 induction ss with
 | nil =>
  intro loc H
  exact bp (Fl.next, loc, H)
 | cons s r iH =>
  intro loc H
  exact aU (hx s loc H) (dn (bY x r)) fun q => wM (iH)
theorem qr (he : gq e) {b : T KX} (hb : ∀ loc H, Fn dD (b loc H)) {t : Tg} {g : Gd} : ∀ l loc H, Fn dD (eM e b t g l loc H) := by
 intro l
 induction l with
 | nil =>
  intro loc H
  exact jh (bp (Fl.next, loc, H))
 | cons v r iH =>
  intro loc H
  exact jh (aU (kH he t v loc H) (kFo b (eM e b t g r)) fun l => aU (hb l.1 l.2) (dn (eM e b t g r)) fun q => wM (iH))
end
section
variable {P : cn} {p : PR}
theorem MJ (he : gq p.e) (hc : vn p.c) {es : List E} {i m : Nat} {loc : Loc} {H : AH} (o : ar) : Fn cv fun Q => kM P p.c (fj p.e es) i m loc H Q o := by
 cases o with
 | list l => exact aU (gl he es loc H) (kMl i m) fun vs => vS fun l => rh _
 | dict l => exact aU (gl he es loc H) (kMd i m) fun vs => L5 fun l => rh _
 | inst k j => exact y9 fun o => match o with
  | .attrs _ => gB fun f => aU (gl he es loc H) (kMi4 p.c f i) fun vs => hc f (.ref i :: vs.1) vs.2
  | .list _ | .dict _ | .inst _ _ => dv
 | attrs => exact dv
theorem Jv (he : gq p.e) (hc : vn p.c) (e : E) (loc : Loc) (H : AH) : Fn cv (nH P p e loc H) := by
 cases e with
 | const v => exact bp (v, H)
 | loc i => exact OC fun v => bp (v, H)
 | tup es => exact aU (gl he es loc H) kTup fun vs => bp (V.tup vs.1, vs.2)
 | list t es => exact aU (gl he es loc H) (kLsT t) fun vs => bp (bh vs.2 t vs.1)
 | edict => exact bp (V.ref H.length, H ++ [.dict []])
 | dictSel ks es s => exact aU (gl he es loc H) (kSel1 (p.e s) ks loc) fun vs => aU (he s loc vs.2) (kSel2 ks vs.1) fun k => Fe fun x => gB fun v => bp (v, k.2)
 | attr e k => exact aU (he e loc H) (kAttr k) fun v => gB fun x => bp (x, v.2)
 | sub a b => exact aU (he a loc H) (kSub1 (p.e b) loc) fun x => aU (he b loc x.2) (kSub2 x.1) fun y => gB fun v => bp (v, y.2)
 | slice t a lo hi => exact aU (he a loc H) (kSl1 (iX p.e lo) (iX p.e hi) t loc) fun v => aU (pY he lo loc v.2) (kSl2 (iX p.e hi) t loc v.1) fun l => aU (pY he hi loc l.2) (kSl3 t v.1 l.1) fun h => gB fun xs => gB fun l' => gB fun h' => bp (bh h.2 t (d6 xs l' h'))
 | bin op a b => exact aU (he a loc H) (kBin1 (p.e b) op loc) fun x => aU (he b loc x.2) (kBin2 op x.1) fun y => rh _
 | neg a => exact aU (he a loc H) kNeg fun x => rX fun k => bp (V.int (-k), x.2)
 | not a => exact aU (he a loc H) kNot fun x => mo fun k => bp (V.bool (!k), x.2)
 | cmp op a b => exact aU (he a loc H) (kCmp1 (p.e b) op loc) fun x => aU (he b loc x.2) (kCmp2 op x.1) fun y => gB fun k => bp (V.bool k, y.2)
 | bop Sl es => exact ou he Sl es loc H
 | ite t a b => exact aU (he t loc H) (kIf (p.e a) (p.e b) loc) fun x => mo fun k => lZ (he a loc x.2) (he b loc x.2)
 | fn f es => exact aU (gl he es loc H) (kFn p.c f) fun vs => hc f vs.1 vs.2
 | new c => exact gB fun f => aU (hc f _ _) (kNew2 H.length) fun v => jh (bp (V.ref H.length, v.2))
 | bi b es => exact aU (gl he es loc H) (kBi b) fun vs => rh _
 | meth o m es => exact aU (he o loc H) (kMe P p.c (fj p.e es) m loc) fun v => Jk fun i => y9 fun o => MJ he hc o
 | comp t elt tg one it ifs base k => exact aU (lI he it loc H) (kCp (ie p.e elt tg one ifs) t base k loc) fun r => jh (aU (pC he r.1 _ r.2.2) (kCp2 t) fun xs => bp (bh xs.2 t xs.1))
 | bad => exact dv
theorem Ea (he : gq p.e) (hx : pL p.x) (s : S) (loc : Loc) (H : AH) : Fn dD (mf p s loc H) := by
 cases s with
 | expr e => exact aU (he e loc H) (kEx loc) fun v => bp (Fl.next, loc, v.2)
 | assign t e => exact aU (he e loc H) (kAs (jM p.e t) loc) fun v => aU (kH he t v.1 loc v.2) kNx fun l => bp (Fl.next, l)
 | assignTup ts es => exact aU (gl he es loc H) (kAts (jZ p.e ts) loc) fun v => aU (nP he ts v.1 loc v.2) kNx fun l => bp (Fl.next, l)
 | ret o => cases o with
  | none => exact bp (Fl.ret .none, loc, H)
  | some e => exact aU (he e loc H) (kRet loc) fun v => bp (Fl.ret v.1, loc, v.2)
 | ite t a b => exact aU (he t loc H) (kXi (bY p.x a) (bY p.x b) loc) fun x => mo fun k => lZ (gP hx a loc x.2) (gP hx b loc x.2)
 | whil t b => exact aU (he t loc H) (kWh (bY p.x b) (p.x (.whil t b)) loc) fun x => mo fun k => lZ (aU (gP hx b loc x.2) (dn (p.x (.whil t b))) fun q => wM (hx _)) (bp (Fl.next, loc, x.2))
 | for_ t it b => exact aU (lI he it loc H) (kFr (eM p.e (bY p.x b) t) loc) fun r => qr he (gP hx b) r.1 loc r.2.2
 | bad => exact dv
theorem Jf {H : AH} (v : V) (H' : AH) : Fn cv fun Q => cO H Q v H' := lZ (bp (v, H)) (bp (v, H'))
theorem Jo (hx : pL p.x) (f : Nat) (vs : List V) (H : AH) : Fn cv (pI P p f vs H) :=
 gB fun fr => jh (aU (gP hx fr.body _ H) (kEnd H) fun q => Jf _ _)
end
theorem jg (P : cn) : ∀ n, gq (PW P n).e /\ pL (PW P n).x /\ vn (PW P n).c := by
 intro n
 induction n with
 | zero =>
  exact ⟨fun u' u' u' => dv, fun u' u' u' => dv, fun u' u' u' => dv⟩
 | succ n iH =>
  exact ⟨Jv (iH).1 (iH).2.2, Ea (iH).1 (iH).2.1, Jo (iH).2.1⟩
noncomputable def Ms (p : PR) : hY := ⟨fun e loc H => the cv (p.e e loc H), fun s loc H => the dD (p.x s loc H), fun f vs H => the cv (p.c f vs H)⟩
noncomputable def I (P : cn) (n : Nat) : hY := Ms (PW P n)
noncomputable def prE (r : hY) : PE := dU r.eval
noncomputable def prX (r : hY) : PX := fun s loc H Q => WO (r.exec s loc H) fun fl q => Q fl q.1 q.2
noncomputable def iM (r : hY) : PR := ⟨prE r, prX r, fun f vs H Q => WO (r.call f vs H) Q⟩
theorem me {P : cn} (n : Nat) : PW P n = iM (I P n) := by
 obtain ⟨a, b, c⟩ := jg P n
 have e1 : (PW P n).e = (iM (I P n)).e := funext fun e => funext fun l => funext fun H => qb (a e l H)
 have e2 : (PW P n).x = (iM (I P n)).x := funext fun e => funext fun l => funext fun H => qb (b e l H)
 have e3 : (PW P n).c = (iM (I P n)).c := funext fun e => funext fun l => funext fun H => qb (c e l H)
 exact congr (congr (congrArg PR.mk e1) e2) e3
end
end
section
noncomputable section
noncomputable abbrev iu {α β : Type} (x : α) (y : β) : α -> β -> Prop := fun a b => a = x /\ b = y
noncomputable abbrev jf {α β γ : Type} (x : α) (y : β) (z : γ) : α -> β -> γ -> Prop := fun a b c => a = x /\ b = y /\ c = z
section
variable {α β γ : Type} {G : Prop} {x : α} {y y' : β} {z z' : γ}
theorem dH {p : (α -> β -> Prop) -> Prop} (h : Fn cv p) (e : the cv p = some (x, y)) : p (iu x y) := by
 rw [kx h, e]; exact ⟨rfl, rfl⟩
theorem iA {p : (α -> β -> γ -> Prop) -> Prop} (h : Fn dD p) (e : the dD p = some (x, y, z)) : p (jf x y z) := by
 rw [kx h, e]; exact ⟨rfl, rfl, rfl⟩
theorem lS {p : (α -> β -> Prop) -> Prop} (h : Fn cv p) (e : p (iu x y)) : the cv p = some (x, y) := by
 rw [kx h] at e
 exact bz e fun a b e1 e2 => by rw [e1, e2.1, e2.2]
theorem pQ {p : (α -> β -> γ -> Prop) -> Prop} (h : Fn dD p) (e : p (jf x y z)) : the dD p = some (x, y, z) := by
 rw [kx h] at e
 exact sS e fun r e1 e2 => by rw [e1, <-e2.1, <-e2.2.1, <-e2.2.2]
theorem gw {o : Option (α × β)} (e : o = some (x, y)) (h : y = y') : o = some (x, y') := h ▸ e
theorem uE {o : Option (α × β × γ)} (e : o = some (x, y, z)) (h : y = y') (k : z = z') : o = some (x, y', z') := h ▸ k ▸ e
theorem nL {p : (α -> β -> Prop) -> Prop} (h : Fn cv p) {Q : α -> β -> Prop} (q : p Q) (g : ∀ a b, the cv p = some (a, b) -> Q a b -> G) : G := by
 rw [kx h] at q
 exact bz q g
theorem go3 {p : (α -> β -> γ -> Prop) -> Prop} (h : Fn dD p) {Q : α -> β -> γ -> Prop} (q : p Q) (g : ∀ a b c, the dD p = some (a, b, c) -> Q a b c -> G) : G := by
 rw [kx h] at q
 exact sS q fun r => g r.1 r.2.1 r.2.2
end
noncomputable def cW (ev : Ev) (es : List E) (loc : Loc) (H : AH) : Option (List V × AH) := the cv (fj (dU ev) es loc H)
noncomputable def kP (ev : Ev) (o : Option E) (loc : Loc) (H : AH) : Option (Option V × AH) := the cv (iX (dU ev) o loc H)
noncomputable def lN (ev : Ev) (i : Bool) (es : List E) (loc : Loc) (H : AH) : Option (V × AH) := the cv (pB (dU ev) i es loc H)
noncomputable def jX (ev : Ev) (es : List E) (loc : Loc) (H : AH) : Option (Bool × AH) := the cv (pT (dU ev) es loc H)
noncomputable def iter (ev : Ev) (it : It) (loc : Loc) (H : AH) : Option (List V × Gd × AH) := the dD (lK (dU ev) it loc H)
noncomputable def ig (ev : Ev) (elt : E) (tg : List Nat) (one : Bool) (ifs : List E) (g : Gd) (l : List V) (loc : Loc) (H : AH) : Option (List V × AH) := the cv (ie (dU ev) elt tg one ifs g l loc H)
noncomputable def store (ev : Ev) (t : Tg) (v : V) (loc : Loc) (H : AH) : Option (Loc × AH) := the cv (jM (dU ev) t v loc H)
noncomputable def stores (ev : Ev) (ts : List Tg) (vs : List V) (loc : Loc) (H : AH) : Option (Loc × AH) := the cv (jZ (dU ev) ts vs loc H)
noncomputable abbrev Ex := S -> Loc -> AH -> Option (Fl × Loc × AH)
noncomputable def om (ex : Ex) : PX := fun s loc H Q => WO (ex s loc H) fun fl q => Q fl q.1 q.2
theorem k9 (ex : Ex) : pL (om ex) := fun s loc H => Bd (ap := dD) (ex s loc H)
noncomputable def execs (ex : Ex) (ss : List S) (loc : Loc) (H : AH) : Option (Fl × Loc × AH) := the dD (bY (om ex) ss loc H)
noncomputable def qo (b : Loc -> AH -> Option (Fl × Loc × AH)) : T KX := fun loc H Q => WO (b loc H) fun fl q => Q fl q.1 q.2
theorem s6 (b : Loc -> AH -> Option (Fl × Loc × AH)) (loc : Loc) (H : AH) : Fn dD (qo b loc H) := Bd (ap := dD) (b loc H)
noncomputable def nM (ev : Ev) (b : Loc -> AH -> Option (Fl × Loc × AH)) (t : Tg) (g : Gd) (l : List V) (loc : Loc) (H : AH) : Option (Fl × Loc × AH) := the dD (eM (dU ev) (qo b) t g l loc H)
section
variable {P : cn} {ev : Ev} {ex : Ex} {r : hY} {loc R3 : Loc} {H H' : AH} {y : V} {G : Prop}
theorem gy {α : Type} {x : Option α} {Q : α -> Prop} (h : c7 x Q) (g : ∀ a, x = some a -> Q a -> G) : G := by
 rw [zV] at h
 exact match x, h, g with | some a, h, g => g a rfl h
theorem OB {α : Type} {x : Option (Option α)} {Q : α -> Prop} (h : ow x Q) (g : ∀ a, x = some (some a) -> Q a -> G) : G := match x, h, g with
 | some (some a), h, g => g a rfl h
theorem su {x : V} {Q : Int -> Prop} (h : lX x Q) (g : ∀ k, x = .int k -> Q k -> G) : G := by
 cases x with
 | int k => exact g k rfl h
 | _ => exact h.elim
theorem mw {x : V} {Q : Bool -> Prop} (h : jk x Q) (g : ∀ k, x = .bool k -> Q k -> G) : G := by
 cases x with
 | bool k => exact g k rfl h
 | _ => exact h.elim
theorem GB {x : V} {Q : Nat -> Prop} (h : rS x Q) (g : ∀ k, x = .ref k -> Q k -> G) : G := by
 cases x with
 | ref k => exact g k rfl h
 | _ => exact h.elim
theorem Px {x : V} {Q : ac -> Prop} (h : s7 x Q) (g : ∀ k, x = .str k -> Q k -> G) : G := by
 cases x with
 | str k => exact g k rfl h
 | _ => exact h.elim
theorem yT {x : Option ar} {K : ar -> Prop} (h : gO x K) (g : ∀ o, x = some o -> K o -> G) : G := by
 rw [zo] at h
 exact match x, h, g with | some a, h, g => g a rfl h
theorem vG {x : Option ar} {Q : List V -> Prop} (h : jY x Q) (g : ∀ l, x = some (.list l) -> Q l -> G) : G := by
 rcases x with _ | o
 ·exact h.elim
 ·cases o with
  | list l => exact g l rfl h
  | _ => exact h.elim
theorem HQ {x : Option ar} {Q : List (Int × V) -> Prop} (h : p9 x Q) (g : ∀ l, x = some (.dict l) -> Q l -> G) : G := by
 rcases x with _ | o
 ·exact h.elim
 ·cases o with
  | dict l => exact g l rfl h
  | _ => exact h.elim
theorem r9 {α β : Type} {x : Option (α × β)} {Q : α -> β -> Prop} (h : jW x Q) (g : ∀ a b, x = some (a, b) -> Q a b -> G) : G := by
 rw [Aw] at h; exact bz h g
theorem iU {es : List E} {Q : c9} (h : fj (dU ev) es loc H Q) (g : ∀ vs H1, cW ev es loc H = some (vs, H1) -> Q vs H1 -> G) : G := nL (gl (bL ev) es loc H) h g
theorem B7 {o : Option E} {Q : KO} (h : iX (dU ev) o loc H Q) (g : ∀ v H1, kP ev o loc H = some (v, H1) -> Q v H1 -> G) : G := nL (pY (bL ev) o loc H) h g
theorem Hg {es : List E} {Q : KB} (h : pT (dU ev) es loc H Q) (g : ∀ v H1, jX ev es loc H = some (v, H1) -> Q v H1 -> G) : G := nL (oh (bL ev) es loc H) h g
theorem yz {it : It} {Q : KI} (h : lK (dU ev) it loc H Q) (g : ∀ l d H1, iter ev it loc H = some (l, d, H1) -> Q l d H1 -> G) : G := go3 (lI (bL ev) it loc H) h g
theorem yX {elt : E} {tg : List Nat} {one : Bool} {ifs : List E} {d : Gd} {l : List V} {Q : c9} (h : ie (dU ev) elt tg one ifs d l loc H Q) (g : ∀ vs H1, ig ev elt tg one ifs d l loc H = some (vs, H1) -> Q vs H1 -> G) : G := nL (pC (bL ev) l loc H) h g
theorem uy {t : Tg} {v : V} {Q : KL} (h : jM (dU ev) t v loc H Q) (g : ∀ l H1, store ev t v loc H = some (l, H1) -> Q l H1 -> G) : G := nL (kH (bL ev) t v loc H) h g
theorem EM {ts : List Tg} {vs : List V} {Q : KL} (h : jZ (dU ev) ts vs loc H Q) (g : ∀ l H1, stores ev ts vs loc H = some (l, H1) -> Q l H1 -> G) : G := nL (nP (bL ev) ts vs loc H) h g
theorem BM {ss : List S} {Q : KX} (h : bY (om ex) ss loc H Q) (g : ∀ fl l H1, execs ex ss loc H = some (fl, l, H1) -> Q fl l H1 -> G) : G := go3 (gP (k9 ex) ss loc H) h g
theorem qH {vs : List V} (h : cW ev [] loc H = some (vs, H')) (g : vs = [] -> H' = H -> G) : G :=
 have e := dH (gl (bL ev) [] loc H) h
 g e.1.symm e.2.symm
theorem qB {a : E} {es : List E} {vs : List V} (h : cW ev (a :: es) loc H = some (vs, H')) (g : ∀ v H1 ws, ev a loc H = some (v, H1) -> cW ev es loc H1 = some (ws, H') -> vs = v :: ws -> G) : G :=
 have h := dH (gl (bL ev) (a :: es) loc H) h; bz h fun v H1 e1 h => iU h fun ws H2 e2 h => g v H1 ws e1 (gw e2 h.2) h.1.symm
theorem v6 {a : E} {v : V} (h : ev a loc H = some (v, H')) : cW ev [a] loc H = some ([v], H') :=
 lS (gl (bL ev) [a] loc H) (by show WO (ev a loc H) _; rw [h]; exact ⟨rfl, rfl⟩)
theorem Pa {v : Option V} (h : kP ev none loc H = some (v, H')) (g : v = none -> H' = H -> G) : G :=
 have e := dH (pY (bL ev) none loc H) h
 g e.1.symm e.2.symm
theorem I3 {a : E} {v : Option V} (h : kP ev (some a) loc H = some (v, H')) (g : ∀ u, ev a loc H = some (u, H') -> v = some u -> G) : G :=
 have h := dH (pY (bL ev) (some a) loc H) h; bz h fun u H1 e1 h => g u (gw e1 h.2) h.1.symm
theorem Fg {i : Bool} (h : lN ev i [] loc H = some (y, H')) : G := (dH (ou (bL ev) i [] loc H) h).elim
theorem yK {i : Bool} {a : E} (h : lN ev i [a] loc H = some (y, H')) (g : ∀ b, ev a loc H = some (.bool b, H') -> y = .bool b -> G) : G :=
 have h := dH (ou (bL ev) i [a] loc H) h; bz h fun u H1 e1 h => mw h fun b e2 h => g b (gw (e2 ▸ e1) h.2) h.1.symm
theorem Ay {i : Bool} {a a' : E} {es : List E} (h : lN ev i (a :: a' :: es) loc H = some (y, H')) (g : ∀ b H1, ev a loc H = some (.bool b, H1) -> b = i -> lN ev i (a' :: es) loc H1 = some (y, H') -> G) (k : ∀ b, ev a loc H = some (.bool b, H') -> b ≠ i -> y = .bool b -> G) : G :=
 have h := dH (ou (bL ev) i (a :: a' :: es) loc H) h; bz h fun u H1 e1 h => mw h fun b e2 h => by
  replace h : if b = i then pB (dU ev) i (a' :: es) loc H1 (iu y H') else iu y H' (.bool b) H1 := h
  by_cases q : b = i
  ·rw [if_pos q] at h; exact g b H1 (e2 ▸ e1) q (lS (ou (bL ev) i (a' :: es) loc H1) h)
  ·rw [if_neg q] at h; exact k b (gw (e2 ▸ e1) h.2) q h.1.symm
theorem Ll {b : Bool} (h : jX ev [] loc H = some (b, H')) (g : b = true -> H' = H -> G) : G :=
 have e := dH (oh (bL ev) [] loc H) h
 g e.1.symm e.2.symm
theorem Mm {a : E} {es : List E} {b : Bool} (h : jX ev (a :: es) loc H = some (b, H')) (g : ∀ H1, ev a loc H = some (.bool true, H1) -> jX ev es loc H1 = some (b, H') -> G) (k : ev a loc H = some (.bool false, H') -> b = false -> G) : G :=
 have h := dH (oh (bL ev) (a :: es) loc H) h; bz h fun u H1 e1 h => mw h fun c e2 h => by
  cases c with
  | true => exact g H1 (e2 ▸ e1) (lS (oh (bL ev) es loc H1) h)
  | false =>
   replace h : false = b /\ H1 = H' := h
   exact k (gw (e2 ▸ e1) h.2) h.1.symm
theorem HV {a : E} {l : List V} {d : Gd} (h : iter ev (.range1 a) loc H = some (l, d, H')) (g : ∀ k : Int, ev a loc H = some (.int k, H') -> k.natAbs < 4096 -> l = (bQ k.toNat).map (fun (k : Nat) => V.int (k : Int)) -> d = none -> G) : G :=
 have h := iA (lI (bL ev) (.range1 a) loc H) h; bz h fun u H1 e1 h => su h fun k e2 h => g k (gw (e2 ▸ e1) h.2.2.2) h.1 h.2.1.symm h.2.2.1.symm
theorem My {a b : E} {l : List V} {d : Gd} (h : iter ev (.range2 a b) loc H = some (l, d, H')) (g : ∀ (m k : Int) H1, ev a loc H = some (.int m, H1) -> ev b loc H1 = some (.int k, H') -> k.natAbs < 4096 -> m.natAbs < 4096 -> l = (bQ (k - m).toNat).map (fun (j : Nat) => V.int (m + (j : Int))) -> d = none -> G) : G :=
 have h := iA (lI (bL ev) (.range2 a b) loc H) h; bz h fun u H1 e1 h => bz h fun w H2 e2 h => su h fun m e3 h => su h fun k e4 h => g m k H1 (e3 ▸ e1) (gw (e4 ▸ e2) h.2.2.2) h.1.1 h.1.2 h.2.1.symm h.2.2.1.symm
theorem MC {a : E} {l : List V} {d : Gd} (h : iter ev (.enum a) loc H = some (l, d, H')) (g : ∀ i q, ev a loc H = some (.ref i, H') -> ag H' i = some (.list q) -> l = q.zipIdx.map (fun p => V.tup [.int (p.2 : Int), p.1]) -> d = some (i, q) -> G) (k : ∀ q, ev a loc H = some (.lst q, H') -> q.all V.isInt = false -> l = q.zipIdx.map (fun p => V.tup [.int (p.2 : Int), p.1]) -> d = none -> G) : G :=
 have h := iA (lI (bL ev) (.enum a) loc H) h; bz h fun u H1 e1 h => by
  cases u with
  | ref i => exact vG h fun q e2 h => g i q (gw e1 h.2.2) (h.2.2 ▸ e2) h.1.symm h.2.1.symm
  | lst q => exact k q (gw e1 h.2.2.2) h.1 h.2.1.symm h.2.2.1.symm
  | _ => exact h.elim
theorem DT {a : E} {l : List V} {d : Gd} (h : iter ev (.of a) loc H = some (l, d, H')) (g : ∀ i, ev a loc H = some (.ref i, H') -> ag H' i = some (.list l) -> d = some (i, l) -> G) (k : ev a loc H = some (.lst l, H') -> d = none -> G) (k' : ev a loc H = some (.tup l, H') -> d = none -> G) : G :=
 have h := iA (lI (bL ev) (.of a) loc H) h; bz h fun u H1 e1 h => by
  cases u with
  | ref i => exact vG h fun q e2 h => g i (gw e1 h.2.2) (h.1 ▸ h.2.2 ▸ e2) (h.1 ▸ h.2.1.symm)
  | lst q =>
   replace h : q = l /\ none = d /\ H1 = H' := h
   exact k (gw (h.1 ▸ e1) h.2.2) h.2.1.symm
  | tup q =>
   replace h : q = l /\ none = d /\ H1 = H' := h
   exact k' (gw (h.1 ▸ e1) h.2.2) h.2.1.symm
  | _ => exact h.elim
section
variable {elt : E} {tg : List Nat} {one : Bool} {ifs : List E} {d : Gd}
theorem zT {vs : List V} (h : ig ev elt tg one ifs d [] loc H = some (vs, H')) (g : bU d H = true -> vs = [] -> H' = H -> G) : G :=
 have e := dH (pC (bL ev) [] loc H) h
 g e.1 e.2.1.symm e.2.2.symm
theorem vt {v : V} {l vs : List V} (h : ig ev elt tg one ifs d (v :: l) loc H = some (vs, H')) (g : ∀ Sc H1 x H2 xs, bU d H = true -> iL tg one v loc = some Sc -> jX ev ifs Sc H = some (true, H1) -> ev elt Sc H1 = some (x, H2) -> ig ev elt tg one ifs d l Sc H2 = some (xs, H') -> vs = x :: xs -> G)
  (k : ∀ Sc H1, bU d H = true -> iL tg one v loc = some Sc -> jX ev ifs Sc H = some (false, H1) -> ig ev elt tg one ifs d l Sc H1 = some (vs, H') -> G) : G :=
 have e := dH (pC (bL ev) (v :: l) loc H) h
 gy e.2 fun Sc e1 h => Hg h fun b H1 e2 h => by
  cases b with
  | true => exact bz (show WO (ev elt Sc H1) _ from h) fun x H2 e3 h => yX h fun xs H3 e4 h => g Sc H1 x H2 xs e.1 e1 e2 e3 (gw e4 h.2) h.1.symm
  | false => exact k Sc H1 e.1 e1 e2 (lS (pC (bL ev) l Sc H1) h)
end
theorem vT {i : Nat} {v : V} (h : store ev (.name i) v loc H = some (R3, H')) (g : R3 = loc.set i (some v) -> H' = H -> G) : G :=
 have e := dH (kH (bL ev) (.name i) v loc H) h
 g e.1.symm e.2.symm
theorem L7 {l : List Nat} {v : V} (h : store ev (.names l) v loc H = some (R3, H')) (g : oo l v loc = some R3 -> H' = H -> G) : G :=
 have h := dH (kH (bL ev) (.names l) v loc H) h; gy h fun l e1 h => g (h.1 ▸ e1) h.2.symm
theorem store_attr {a : E} {k : Nat} {v : V} (h : store ev (.attr a k) v loc H = some (R3, H')) (g : ∀ u H1, ev a loc H = some (u, H1) -> iZ H1 u k v = some H' -> R3 = loc -> G) : G :=
 have h := dH (kH (bL ev) (.attr a k) v loc H) h; bz h fun u H1 e1 h => gy h fun H2 e2 h => g u H1 e1 (h.2 ▸ e2) h.1.symm
theorem Iz {a b : E} {v : V} (h : store ev (.sub a b) v loc H = some (R3, H')) (g : ∀ u w H1 H2, ev a loc H = some (u, H1) -> ev b loc H1 = some (w, H2) -> gL H2 u w v = some H' -> R3 = loc -> G) : G :=
 have h := dH (kH (bL ev) (.sub a b) v loc H) h; bz h fun u H1 e1 h => bz h fun w H2 e2 h => gy h fun H3 e3 h => g u w H1 H2 e1 e2 (h.2 ▸ e3) h.1.symm
theorem Ag {vs : List V} (h : stores ev [] vs loc H = some (R3, H')) (g : vs = [] -> R3 = loc -> H' = H -> G) : G := by
 have e := dH (nP (bL ev) [] vs loc H) h
 cases vs with
 | nil => exact g rfl e.1.symm e.2.symm
 | cons => exact e.elim
theorem zu {t : Tg} {ts : List Tg} {vs : List V} (h : stores ev (t :: ts) vs loc H = some (R3, H')) (g : ∀ v ws Sc H1, vs = v :: ws -> store ev t v loc H = some (Sc, H1) -> stores ev ts ws Sc H1 = some (R3, H') -> G) : G := by
 have e := dH (nP (bL ev) (t :: ts) vs loc H) h
 cases vs with
 | nil => exact e.elim
 | cons v vs => exact uy e fun Sc H1 e1 h => g v vs Sc H1 rfl e1 (lS (nP (bL ev) ts vs Sc H1) h)
theorem execs_nil {fl : Fl} (h : execs ex [] loc H = some (fl, R3, H')) (g : fl = .next -> R3 = loc -> H' = H -> G) : G :=
 have e := iA (gP (k9 ex) [] loc H) h
 g e.1.symm e.2.1.symm e.2.2.symm
theorem execs_cons {s : S} {ss : List S} {fl : Fl} (h : execs ex (s :: ss) loc H = some (fl, R3, H')) (g : ∀ Sc H1, ex s loc H = some (.next, Sc, H1) -> execs ex ss Sc H1 = some (fl, R3, H') -> G) (k : ∀ v, ex s loc H = some (.ret v, R3, H') -> fl = .ret v -> G) : G :=
 have h := iA (gP (k9 ex) (s :: ss) loc H) h; bz (show WO (ex s loc H) (fun f q => dn (bY (om ex) ss) (jf fl R3 H') f q.1 q.2) from h) fun f q e1 h => by
  cases f with
  | next => exact g q.1 q.2 e1 (pQ (gP (k9 ex) ss q.1 q.2) h)
  | ret v =>
   replace h : Fl.ret v = fl /\ q.1 = R3 /\ q.2 = H' := h
   exact k v (uE e1 h.2.1 h.2.2) h.1.symm
section
variable {b : Loc -> AH -> Option (Fl × Loc × AH)} {t : Tg} {d : Gd} {fl : Fl}
theorem He (h : nM ev b t d [] loc H = some (fl, R3, H')) (g : bU d H = true -> fl = .next -> R3 = loc -> H' = H -> G) : G :=
 have e := iA (qr (bL ev) (s6 b) [] loc H) h
 g e.1 e.2.1.symm e.2.2.1.symm e.2.2.2.symm
theorem Ad {v : V} {l : List V} (h : nM ev b t d (v :: l) loc H = some (fl, R3, H')) (g : ∀ Sc H1 SY H2, bU d H = true -> store ev t v loc H = some (Sc, H1) -> b Sc H1 = some (.next, SY, H2) -> nM ev b t d l SY H2 = some (fl, R3, H') -> G)
  (k : ∀ Sc H1 v', bU d H = true -> store ev t v loc H = some (Sc, H1) -> b Sc H1 = some (.ret v', R3, H') -> fl = .ret v' -> G) : G :=
 have e := iA (qr (bL ev) (s6 b) (v :: l) loc H) h
 uy e.2 fun Sc H1 e1 h => bz (show WO (b Sc H1) (fun f q => dn (eM (dU ev) (qo b) t d l) (jf fl R3 H') f q.1 q.2) from h) fun f q e2 h => by
  cases f with
  | next => exact g Sc H1 q.1 q.2 e.1 e1 e2 (pQ (qr (bL ev) (s6 b) l q.1 q.2) h)
  | ret v' =>
   replace h : Fl.ret v' = fl /\ q.1 = R3 /\ q.2 = H' := h
   exact k Sc H1 v' e.1 e1 (uE e2 h.2.1 h.2.2) h.1.symm
end
theorem Eb (ex : Ex) (ss : List S) : bY (om ex) ss = qo (execs ex ss) := funext fun l => funext fun H => qb (gP (k9 ex) ss l H)
theorem BB {n : Nat} {e : E} (h : (I P (n + 1)).eval e loc H = some (y, H')) : nH P (iM (I P n)) e loc H (iu y H') := by
 rw [<-me]; exact dH ((jg P (n + 1)).1 e loc H) h
theorem jH {n : Nat} {s : S} {fl : Fl} (h : (I P (n + 1)).exec s loc H = some (fl, R3, H')) : mf (iM (I P n)) s loc H (jf fl R3 H') := by
 rw [<-me]; exact iA ((jg P (n + 1)).2.1 s loc H) h
theorem GE {n f : Nat} {vs : List V} (h : (I P (n + 1)).call f vs H = some (y, H')) : pI P (iM (I P n)) f vs H (iu y H') := by
 rw [<-me]; exact dH ((jg P (n + 1)).2.2 f vs H) h
end
end
end
section
set_option backward.match.sparseCases false
noncomputable section
structure TC where
 scope : cD
 tab : List (ac × Nat)
 n : Nat
noncomputable def aS {α β : Type} (f : α -> Option β) : List α -> Option (List β)
 | [] => some []
 | a :: r => (f a).bind fun b => (aS f r).map fun q => b :: q
noncomputable def dE : List ac := ["domains", "firsts", "trail", "marks", "news", "speaker", "is_failed", "clash", "clauses", "units", "fresh", "watches"]
noncomputable def fI : List ac := ["append", "extend", "pop", "remove", "setdefault", "get",
 "add", "height", "watch", "place", "renew", "force", "visit", "begin", "propagate",
 "new_var", "size", "initial", "has", "holds", "enter", "strike", "decide", "fail", "push", "depth", "changed"]
noncomputable def gK : List ac := ["next_from", "has", "up_to", "from_on", "without", "meet", "negation", "struck", "said_of", "spot_of",
 "_law_draw", "_law_literal", "_law_clause", "_law_meets", "_law_can", "_law_lots", "_law_falls", "_law_are_watches_right", "_law_is_placed_right", "law", "has_domains"]
noncomputable def lY : List ac := ["Nogoods", "Store"]
noncomputable def dQ : List ac := ["len", "max", "min", "tuple", "list", "sorted", "set", "range", "enumerate"]
noncomputable def za : fu -> Bool
 | .local | .cell | .free => true
 | _ => false
noncomputable def dY (c : TC) (x : ac) : Bool := c.scope.names.lookup x == some .globalImplicit
noncomputable def isListD : Expr -> Bool
 | .List .. => true
 | _ => false
noncomputable def kE : Expr -> Bool
 | .Call .. => false
 | _ => true
noncomputable def dy (s : cD) : List ac := (s.names.filter fun x => x.2 == .local || x.2 == .cell).map (·.1)
noncomputable def i0 (k : Nat) : List ac -> List (ac × Nat)
 | [] => []
 | x :: r => (x, k) :: i0 (k + 1) r
theorem Hl {k : Nat}  : i0 k [] = ([]) := rfl
theorem IZ {k : Nat} {x} {r} : i0 k (x :: r) = ((x, k) :: i0 (k + 1) r) := rfl
noncomputable def jo (c : TC) : List (ac × fu) -> List (ac × Nat)
 | [] => []
 | (x, .free) :: r => (match c.tab.lookup x with
  | some i => (x, i) :: jo c r
  | none => jo c r)
 | _ :: r => jo c r
noncomputable def lb (sc : cD) (c : TC) : cD :=
 { sc with names := sc.names.map fun (n, k) => if (k == .free && c.scope.kind == .function && c.scope.names.lookup n == some .cell) then (n, .cell) else (n, k) }
noncomputable def di (sc : cD) (c : TC) : TC :=
 { scope := lb sc c, tab := i0 c.n (dy sc) ++ jo c sc.names, n := c.n + (dy sc).length }
noncomputable def lh : mO -> Option Op
 | .Add => some .add
 | .Sub => some .sub
 | .Mult => some .mul
 | .FloorDiv => some .fdiv
 | .Mod => some .fmod
 | _ => none
noncomputable def rV : CmpOp -> Option Cm
 | .Lt => some .lt
 | .LtE => some .le
 | .Gt => some .gt
 | .GtE => some .ge
 | .Eq => some .eq
 | .NotEq => some .ne
 | .Is => some .is
 | .IsNot => some .isNot
 | .In => some .isin
 | .NotIn => some .notin
noncomputable def kR : Option Expr -> Option ac
 | some (.Constant (.str s) _ _) => some s
 | _ => none
noncomputable def rY {α : Type} (e : Expr) (f : ac -> Option α) : Option α := match e with
 | .Name x _ => f x
 | _ => none
noncomputable def pU (c : TC) (x : ac) : Option Nat := (c.tab.lookup x).bind fun i => (c.scope.names.lookup x).bind fun k => if za k && !(x == ("__debug__" : ac)) && !(x == ("__classdict__" : ac)) then some i else none
noncomputable def nameAt (c : TC) (e : Expr) : Option Nat := rY e (pU c)
noncomputable def sq (c : TC) (x : ac) : Option Nat := (c.tab.lookup x).bind fun i => (c.scope.names.lookup x).bind fun k => if (k == .local || k == .cell) && !(x == ("__debug__" : ac)) && !(x == ("__classdict__" : ac)) then some i else none
noncomputable def jV (c : TC) (e : Expr) : Option Nat := rY e (sq c)
noncomputable def lT (e : Expr) : Option (List Expr) := match e with
 | .Tuple es _ _ => some es
 | _ => none
noncomputable def oEl {α β : Type} (x : Option α) (f : α -> β) (y : β) : β := match x with
 | some a => f a
 | none => y
noncomputable def jU (c : TC) (e : Expr) : Option (List Nat × Bool) := oEl (lT e) (fun es => (aS (jV c) es).map (·, false)) ((jV c e).map fun i => ([i], true))
noncomputable def wG : Const -> Option V
 | .none => some .none
 | .bool b => some (.bool b)
 | .int i => some (.int i)
 | .str s => some (.str s)
 | _ => none
noncomputable def notEnum : It -> Bool
 | .enum _ => false
 | _ => true
noncomputable def FM : Tg -> It -> Bool
 | .names _, _ => true
 | _, it => notEnum it
noncomputable def qG : Expr -> Bool
 | .ListComp .. => true
 | .SetComp .. => true
 | .DictComp .. => true
 | _ => false
noncomputable def dictOf : Expr -> Option (List (Option Expr) × List Expr)
 | .Dict ks vs _ => some (ks, vs)
 | _ => none
noncomputable def mq : Expr -> Option (Option Expr × Option Expr × Option Expr)
 | .Slice lo hi st _ => some (lo, hi, st)
 | _ => none
noncomputable def Bt {α : Type} (e : Expr) (f : Expr -> List Expr -> List w7 -> Option α) : Option α := match e with
 | .Call g as ks _ => f g as ks
 | _ => none
noncomputable def l1 {α β : Type} (l : List α) (f : α -> Option β) : Option β := match l with
 | a :: r => (match r with
  | [] => f a
  | _ :: _ => none)
 | [] => none
noncomputable def l0 {α β : Type} (l : List α) (x : Option β) : Option β := match l with
 | [] => x
 | _ :: _ => none
noncomputable def zq (as : List Expr) : Option (ac × Expr) := l1 as fun a => Bt a fun f xs ks => rY f fun g => l1 xs fun x => l0 ks (some (g, x))
noncomputable def Nu (as : List Expr) (tr : Expr -> Option E) (other : Option It) : Option It := match as with
 | a :: as => (match as with
  | b :: as => (match as with
   | _ :: _ => other
   | [] => (tr a).bind fun a => (tr b).map fun b => It.range2 a b)
  | [] => (tr a).map It.range1)
 | [] => other
noncomputable def DW (as : List Expr) (tr : Expr -> Option E) (other : Option It) : Option It := match as with
 | a :: as => (match as with
  | _ :: _ => other
  | [] => (tr a).map It.enum)
 | [] => other
noncomputable def vU (i : Option Nat) (as : List Expr) (tr : Expr -> Option E) (other : Option It) : Option It := if i = some 7 then Nu as tr other else if i = some 8 then DW as tr other else other
noncomputable def vk (t : Bool) : Nat -> Option Bi
 | 0 => some .len | 1 => some .max | 2 => some .min | 3 => some .tuple | 4 => some (if t then .listT else .list) | _ => none
noncomputable def zf (c : TC) (t : Bool) (as : List Expr) (tr : Expr -> Option E) (WI : Option (List E)) (x1 x2 x3 : Option Nat) : Option E :=
 oEl x1 (fun i => WI.map (E.fn (if i == 20 then 1 else i))) <| oEl x2 (fun i => l0 as (some (.new i))) <| x3.bind fun i =>
  if i = 7 then some .bad else if i = 5 then oEl (zq as) (fun p => if dY c p.1 && p.1 == ("set" : ac) && !bO p.2 then (tr p.2).map fun x => E.bi .sortedSet [x] else WI.map (E.bi .sorted)) (WI.map (E.bi .sorted))
  else (vk t i).bind fun b => WI.map (E.bi b)
noncomputable def rz (c : TC) (sc : cD) (tg : List Nat) (one : Bool) (it : It) : Bool :=
 (!one || notEnum it) && sc.kind == .function && tg.all (fun i => decide (c.n <= i)) && (sc.names.all fun x => x.2 != .local || sc.names.lookup x.1 == some .local) && (sc.names.all fun x => x.2 == .local || x.2 == .cell || x.2 == .free || x.2 == .globalImplicit) && decide (dy sc).Nodup && decide (sc.names.map (·.1)).Nodup &&
      (sc.names.all fun x => x.2 != .free || (c.tab.lookup x.1).isSome && (c.scope.names.lookup x.1 == some .cell || c.scope.names.lookup x.1 == some .free))
mutual
noncomputable def ay : Nat -> TC -> Bool -> Expr -> Option E
 | 0, _, _, _ => none
 | k + 1, c, t, e => match e with
  | .Constant x _ _ => (wG x).map E.const
  | .Name x _ => (pU c x).map E.loc
  | .BoolOp op vs _ => if vs.isEmpty then none else (aS (ay k c false) vs).map (E.bop (op == .And))
  | .BinOp l op r _ => (lh op).bind fun o => (ay k c false l).bind fun a => (ay k c false r).map fun b => .bin o a b
  | .UnaryOp op x _ => (match op with
   | .USub => (ay k c false x).map E.neg
   | .Not => (ay k c false x).map E.not
   | _ => none)
  | .IfExp a b d _ => (ay k c false a).bind fun a => (ay k c t b).bind fun b => (ay k c t d).map fun d => .ite a b d
  | .Dict ks vs _ => l0 ks (l0 vs (some .edict))
  | .List es _ => if es.any bO || decide (100 < es.length) then none else (aS (ay k c false) es).map (E.list t)
  | .Tuple es _ _ => if es.any bO || decide (100 < es.length) then none else (aS (ay k c false) es).map E.tup
  | .Compare l ops rs _ => l1 ops fun op => l1 rs fun r => if behindInMarks op r then none else (rV op).bind fun o => (ay k c false l).bind fun a => (ay k c false r).map fun b => .cmp o a b
  | .Attribute v a _ => if kE v then (ay k c false v).bind fun o => (dE.idxOf? a).map fun i => .attr o i else none
  | .Subscript v sl _ => oEl (dictOf v) (fun p => (aS kR p.1).bind fun ks => (aS (ay k c false) p.2).bind fun es => (ay k c false sl).bind fun s => if ks.length == es.length && decide (ks.length <= 15) && decide ks.Nodup then some (.dictSel ks es s) else none) <|
    oEl (mq sl) (fun p => oEl p.2.2 (fun u' => none) ((ay k c false v).bind fun v => (mD k c p.1).bind fun lo => (mD k c p.2.1).map fun hi => .slice t v lo hi)) ((ay k c false v).bind fun a => (ay k c false sl).map fun b => .sub a b)
  | .Call f as ks p => l0 ks (match f with
   | .Attribute o m ap => if kE o && ap.endLine == p.line && !as.any bO && decide (as.length < 20) then (ay k c false o).bind fun o => (fI.idxOf? m).bind fun i => (aS (ay k c (i == 0 || i == 4)) as).map (E.meth o i) else none
   | .Name f _ => if dY c f && !(f == ("__debug__" : ac)) && !as.any bO && decide (as.length < 20) then zf c t as (ay k c false) (aS (ay k c false) as) (gK.idxOf? f) (lY.idxOf? f) (dQ.idxOf? f) else none
   | _ => none)
  | .ListComp elt gens sc _ => l1 gens fun g => if g.is_async = 0 then (jU (di sc c) g.target).bind fun tg => (gM k c g.iter).bind fun it => (ay k (di sc c) false elt).bind fun elt => (aS (ay k (di sc c) false) g.ifs).bind fun ifs =>
    if rz c sc tg.1 tg.2 it then some (.comp t elt tg.1 tg.2 it ifs c.n (dy sc).length) else none
   else none
  | _ => none
noncomputable def mD : Nat -> TC -> Option Expr -> Option (Option E)
 | 0, _, _ => none
 | k + 1, c, o => (match o with
  | none => some none
  | some e => (ay k c false e).map some)
noncomputable def gM : Nat -> TC -> Expr -> Option It
 | 0, _, _ => none
 | k + 1, c, e => match e with
  | .Call f as ks p => (match ks, f with
   | [], .Name f _ => if dY c f && !as.any bO then vU (dQ.idxOf? f) as (ay k c false) ((ay k c false e).map It.of) else none
   | _, _ => (ay k c false e).map It.of)
  | .Set .. => none
  | _ => (ay k c false e).map It.of
end
noncomputable def fH (k : Nat) (c : TC) : Expr -> Option Tg
 | .Name x _ => (sq c x).map Tg.name
 | .Attribute v a _ => if kE v then (ay k c false v).bind fun o => (dE.idxOf? a).map fun i => .attr o i else none
 | .Subscript v s _ => oEl (mq s) (fun u' => none) ((ay k c false v).bind fun a => (ay k c false s).map fun b => .sub a b)
 | .Tuple es _ _ => (aS (jV c) es).map Tg.names
 | _ => none
noncomputable def p4 : Expr -> Bool
 | .Attribute .. | .Subscript .. => true
 | _ => false
noncomputable def kF (k : Nat) (c : TC) : List Expr -> List Expr -> Option (List E)
 | [], l => l0 l (some [])
 | t :: ts, l => (match l with
  | v :: vs => (ay k c (p4 t || isListD v) v).bind fun e => (kF k c ts vs).map fun es => e :: es
  | [] => none)
noncomputable def vH (k : Nat) (c : TC) (t v : Expr) : Option S := (fH k c t).bind fun t' => (ay k c (p4 t || isListD v) v).map fun v => S.assign t' v
noncomputable abbrev rH : Expr -> List ac := fun | .Name x _ => [x] | _ => []
noncomputable def A2 (k : Nat) (c : TC) (ts vs : List Expr) : Option S :=
 if vs.any bO || ts.any bO || ts.length != vs.length || decide (100 < vs.length) || (vs.all (tx 8) && !vs.all (tz 8)) || !decide ((ts.map rH).flatten).Nodup then none else (aS (fH k c) ts).bind fun Tw => (kF k c ts vs).map fun es => .assignTup Tw es
noncomputable def AS (k : Nat) (c : TC) (ts : List Expr) (v : Expr) : Option S := l1 ts fun t => oEl (lT t) (fun ts => oEl (lT v) (A2 k c ts) (vH k c t v)) (vH k c t v)
mutual
noncomputable def wF : Nat -> TC -> fZ -> Option S
 | 0, _, _ => none
 | k + 1, c, s => match s with
  | .Expr v _ => if qG v then none else (ay k c false v).map S.expr
  | .Assign ts v _ => AS k c ts v
  | .Return o _ => (match o with
   | none => some (.ret none)
   | some v => (ay k c false v).map fun v => S.ret (some v))
  | .If t a b _ => (ay k c false t).bind fun t => (iC k c a).bind fun a => (iC k c b).map fun b => .ite t a b
  | .While t a r _ => l0 r ((ay k c false t).bind fun t => (iC k c a).map fun a => .whil t a)
  | .For t it b r _ => l0 r ((fH k c t).bind fun t => (gM k c it).bind fun it => (iC k c b).bind fun b => if FM t it = true then some (.for_ t it b) else none)
  | .Raise .. => some .bad
  | _ => none
noncomputable def iC : Nat -> TC -> List fZ -> Option (List S)
 | 0, _, _ => none
 | k + 1, c, l => (match l with
  | [] => some []
  | s :: r => (wF k c s).bind fun s => (iC k c r).map fun r => s :: r)
end
noncomputable def jx (a : lk) (sc : cD) : TC :=
 let ps := a.args.map (·.arg)
 let ns := ps ++ (dy sc).filter fun x => !ps.contains x
 { scope := sc, tab := i0 0 ns, n := ns.length }
noncomputable def trF (a : lk) (b : List fZ) (sc : cD) : Option FR :=
 (iC 40 (jx a sc) b).map fun body => ⟨a.args.length, (jx a sc).n, body⟩
noncomputable def yq (body : List fZ) (x : ac) : Option (lk × List fZ × cD) := body.findSome? fun st => match st with
 | .FunctionDef n a b _ _ _ sc _ _ _ => if n == x then some (a, b, sc) else none
 | _ => none
noncomputable def clsIn (body : List fZ) (x : ac) : Option (List fZ) := body.findSome? fun st => match st with
 | .ClassDef n _ _ b _ _ _ _ _ _ _ => if n == x then some b else none
 | _ => none
noncomputable def pb : List fZ := RQ.main.body
noncomputable def mT : List (Nat × ac) := [(0, "__init__"), (0, "add"), (0, "height"), (0, "watch"), (0, "place"), (0, "renew"), (0, "force"), (0, "visit"), (0, "begin"), (0, "propagate"),
 (1, "__init__"), (1, "new_var"), (1, "size"), (1, "initial"), (1, "has"), (1, "holds"), (1, "enter"), (1, "strike"), (1, "decide"), (1, "fail"), (1, "push"), (1, "pop"), (1, "depth"), (1, "changed")]
noncomputable def iJ : List (Option (lk × List fZ × cD)) := (gK.take 20).map (yq pb) ++ mT.map fun cm => (lY[cm.1]?).bind fun c => (clsIn pb c).bind fun b => yq b cm.2
noncomputable def sZ : List (Option FR) := iJ.map fun x => x.bind fun (a, b, sc) => trF a b sc
end
end
section
noncomputable abbrev eQ : RowW := w8.row.toRowW
noncomputable def GG : aG := w8.row.toRowW.prog
noncomputable def Os : List Nat := [0, 2, 3, 4, 5, 7, 8, 9, 10, 11, 12, 13, 15, 16, 18, 19, 21, 22, 23, 24, 25, 26, 27, 28, 29, 30, 31, 32]
noncomputable def qv : aG := view GG Os
noncomputable def L0 : List ac := [CF "has_domains"]
noncomputable def AX (o : de) : Option ak := match o.data with
 | .cls k => some k.ns
 | _ => none
noncomputable def sz (h : ao) (n : ac) : Bool := match h.nsMap ij n with
 | some (.ref C) => (match h.get? C with
  | some o => (match AX o with
   | some N => h.isNs N && dE.all fun k => (h.nsMap N k).isNone
   | none => false)
  | none => false)
 | _ => false
noncomputable def pt (s : ae) : Bool := s.heap.isNs ij && decide (s.heap.nsMap ij "has_domains" = s.heap.nsMap ij "has") && sz s.heap "Nogoods" && sz s.heap "Store"
noncomputable def yM : List de -> List de × List de
 | [] => ([], [])
 | a :: r => match yM r with | (x, y) => (a :: y, x)
noncomputable def vD : Nat -> List de -> BT
 | 0, _ => .nil
 | n + 1, l => match l with
  | [] => .nil
  | v :: r => match yM r with | (x, y) => .node v (vD n x) (vD n y)
noncomputable def Im (P : tA) : List de := (iQ P).objs.toList
noncomputable def Au (P : tA) : BT := vD 20 (Im P)
noncomputable def p8 (tb : String -> Option gX) (p : aG) (w : aE) (TQ : Nat) (VJ : Option aa) : Nat -> w9 -> Thread -> Option w9
 | 0, _, _ => none
 | n + 1, s, t => match through t with
  | true => some s
  | false => match stepOk TQ VJ t with
   | false => none
   | true => match stepT (denote tb) p w s t with
    | some (s', t') => p8 tb p w TQ VJ n s' t'
    | none => none
noncomputable abbrev BY (s : ae) : Bool := xlAt qv [] s && recOk (RowW.records eQ) s
theorem opn (w : aE) : (fencedOpening ll eQ.prog w 5478).map (fun s => (s.heap, s.gens, s.drawn, s.toks)) = some (iQ w.params, Array.mk [], tB, tC) :=
 boot_open (p := eQ.prog) rfl rfl (fun u' => rfl) w
theorem KU {p : aG} {w : aE} {TQ : Nat} {VJ : Option aa} {n : Nat} : ∀ {s s' : w9} {t : Thread}, p8 ll p w TQ VJ n s t = some s' -> topRun ll p w TQ VJ n s.abs t = some s'.abs := by
 induction n with
 | zero => exact fun h => nomatch h
 | succ n ih =>
  intro s s' t h
  unfold p8 at h
  unfold topRun
  cases ht : through t with
  | true => rw [ht] at h; exact congrArg _ (congrArg _ (aC h))
  | false =>
   rw [ht] at h
   cases hk : stepOk TQ VJ t with
   | false => rw [hk] at h; cases h
   | true =>
    rw [hk] at h
    cases hs : stepT (denote ll) p w s t with
    | none => rw [hs] at h; cases h
    | some r => obtain ⟨Sp, Zs⟩ := r; rw [hs] at h; show (match step (denote ll) p w s.abs t with | .go s' t' => _ | .halt _ _ => _) = _; rw [stepT_spec hs]; exact ih h
noncomputable def uj (P : tA) (os : OsState) : w9 := ⟨Au P, 11, (iQ P).life, Array.mk [], tB, tC, os⟩
theorem boot_abs (P : tA) : absHeap (Au P) 11 (iQ P).life = iQ P := by kernel_rfl
theorem Ey (P : tA) : ((iQ P).isNs ij, (iQ P).objs.size, (iQ P).nsMap ij "__annotations__") = (true, 11, some (.ref 6)) := by kernel_rfl
theorem Ma (w : aE) (os : OsState) : (p8 ll eQ.prog w 11 (some (.ref 6)) 5478 (uj w.params os) (topStub eQ.prog)).map (fun s => openSeen qv L0 (importedModules eQ.prog.main.body) BY true s.abs) = some (openGood qv L0) := by kernel_rfl
theorem O5 (w : aE) (os : OsState) : (p8 ll eQ.prog w 11 (some (.ref 6)) 5478 (uj w.params os) (topStub eQ.prog)).map (fun s => (staticsOk (importedModules eQ.prog.main.body) (iQ w.params) s.abs.heap && namesBound eQ.prog s.abs.heap && gensDone s.abs && laidKept (iQ w.params) s.abs.heap, pt s.abs)) = some (true, true) := by kernel_rfl
theorem RC : LeftO eQ.prog qv L0 BY pt (fun u' => true) 5478 := by
 intro w
 obtain ⟨⟨h, gs, d, k, os⟩, e, e'⟩ := oD.mp (opn w)
 replace e' := qK e'
 obtain ⟨e1, e'⟩ := e'
 obtain ⟨e2, e'⟩ := qK e'
 obtain ⟨e3, e4⟩ := qK e'
 subst e1 e2 e3 e4
 unfold openEnds
 rw [e]
 show (topFrom ll eQ.prog w 5478 _).map _ = _
 obtain ⟨s, r1, r2⟩ := oD.mp (O5 w os)
 obtain ⟨l1, r2⟩ := qK r2
 obtain ⟨s', VS, UC⟩ := oD.mp (Ma w os)
 rw [r1] at VS
 obtain rfl := aC VS
 obtain ⟨z1, z2⟩ := qK (Ey w.params)
 obtain ⟨z2, z3⟩ := qK z2
 have r := KU r1
 rw [show (uj w.params os).abs = (⟨iQ w.params, Array.mk [], tB, tC, os⟩ : ae) from congrArg (fun h => (⟨h, Array.mk [], tB, tC, os⟩ : ae)) (boot_abs w.params)] at r
 have t : topFrom ll eQ.prog w 5478 ⟨iQ w.params, Array.mk [], tB, tC, os⟩ = some s.abs := by
  unfold topFrom
  dsimp only
  rw [z1, z2, z3, r]
  show (match (staticsOk _ _ _ && _ && _ && _ : Bool) with | true => _ | false => _) = _
  rw [l1]
 rw [t]
 exact congrArg some (tD UC r2)
noncomputable abbrev theL : OpenLaw := w8
noncomputable def LD : ac := CF "law"
noncomputable def lJ : DefRec := ((defOf qv LD).get (by kernel_rfl)).1
theorem RM : defOf qv theL.row.name = some (lJ, []) := by kernel_rfl
theorem Rw : theL.row.prog.theDef theL.row.name = some (lJ.params, lJ.body, lJ.scope) := by kernel_rfl
theorem RK : kwWritten? lJ.params.kwonlyargs lJ.params.kw_defaults = some [] := by kernel_rfl
theorem RN : theL.wellSaid = true := by kernel_rfl
theorem RB : (!theL.row.writes || theL.row.records.isEmpty) = true := by kernel_rfl
theorem Rz : (chainsOk qv && opensWell theL.row.prog && (frees theL.row.toRowW && theL.row.within.isEmpty)) = true := by decide +kernel
theorem RF : theL.row.prog.bare := ⟨rfl, rfl, rfl, rfl, rfl, by decide +kernel⟩
theorem RL : theL.row.toRowW.promised := ⟨[.list []], by decide +kernel, by decide +kernel⟩
theorem RJ : lJ.name = ("law" : ac) := by kernel_rfl
end
section
set_option backward.match.sparseCases false
noncomputable section
inductive cX (k : Nat) (c : TC) (t : Bool) : Expr -> E -> Prop
 | const {x : Const} {a : Nat} {p : aJ} {v : V} (h : wG x = some v) : cX k c t (.Constant x a p) (.const v)
 | name {x : ac} {p : aJ} {i : Nat} (h : pU c x = some i) : cX k c t (.Name x p) (.loc i)
 | bop {op : BoolOp} {vs : List Expr} {p : aJ} {es : List E} (h0 : vs.isEmpty = false) (h : aS (ay k c false) vs = some es) : cX k c t (.BoolOp op vs p) (.bop (op == .And) es)
 | bin {l r : Expr} {op : mO} {p : aJ} {o : Op} {a b : E} (h1 : lh op = some o) (h2 : ay k c false l = some a) (h3 : ay k c false r = some b) : cX k c t (.BinOp l op r p) (.bin o a b)
 | neg {x : Expr} {p : aJ} {a : E} (h : ay k c false x = some a) : cX k c t (.UnaryOp .USub x p) (.neg a)
 | not {x : Expr} {p : aJ} {a : E} (h : ay k c false x = some a) : cX k c t (.UnaryOp .Not x p) (.not a)
 | ite {a b d : Expr} {p : aJ} {a' b' d' : E} (h1 : ay k c false a = some a') (h2 : ay k c t b = some b') (h3 : ay k c t d = some d') : cX k c t (.IfExp a b d p) (.ite a' b' d')
 | edict {p : aJ} : cX k c t (.Dict [] [] p) .edict
 | list {es : List Expr} {p : aJ} {Si : List E} (h0 : es.any bO = false) (hl : es.length <= 100) (h : aS (ay k c false) es = some Si) : cX k c t (.List es p) (.list t Si)
 | tup {es : List Expr} {a : Nat} {p : aJ} {Si : List E} (h0 : es.any bO = false) (hl : es.length <= 100) (h : aS (ay k c false) es = some Si) : cX k c t (.Tuple es a p) (.tup Si)
 | cmp {l r : Expr} {op : CmpOp} {p : aJ} {o : Cm} {a b : E} (hm : behindInMarks op r = false) (h1 : rV op = some o) (h2 : ay k c false l = some a) (h3 : ay k c false r = some b) : cX k c t (.Compare l [op] [r] p) (.cmp o a b)
 | attr {v : Expr} {a : ac} {p : aJ} {o : E} {i : Nat} (hn : kE v = true) (h1 : ay k c false v = some o) (h2 : dE.idxOf? a = some i) : cX k c t (.Attribute v a p) (.attr o i)
 | dictSel {ks : List (Option Expr)} {vs : List Expr} {dp : aJ} {sl : Expr} {p : aJ} {SN : List ac} {es : List E} {s : E} (h1 : aS kR ks = some SN) (h2 : aS (ay k c false) vs = some es) (h3 : ay k c false sl = some s) (q1 : SN.length = es.length) (q2 : SN.length <= 15) (q3 : SN.Nodup) : cX k c t (.Subscript (.Dict ks vs dp) sl p) (.dictSel SN es s)
 | slice {v : Expr} {lo hi : Option Expr} {q p : aJ} {v' : E} {V0 T0 : Option E} (h1 : ay k c false v = some v') (h2 : mD k c lo = some V0) (h3 : mD k c hi = some T0) : cX k c t (.Subscript v (.Slice lo hi none q) p) (.slice t v' V0 T0)
 | sub {v sl : Expr} {p : aJ} {a b : E} (hs : mq sl = none) (h1 : ay k c false v = some a) (h2 : ay k c false sl = some b) : cX k c t (.Subscript v sl p) (.sub a b)
 | meth {o : Expr} {m : ac} {ap p : aJ} {as : List Expr} {o' : E} {i : Nat} {es : List E} (q : (kE o && ap.endLine == p.line && !as.any bO && decide (as.length < 20)) = true) (h1 : ay k c false o = some o') (h2 : fI.idxOf? m = some i) (h3 : aS (ay k c (i == 0 || i == 4)) as = some es) : cX k c t (.Call (.Attribute o m ap) as [] p) (.meth o' i es)
 | fn {f : ac} {px p : aJ} {as : List Expr} {i : Nat} {es : List E} (q : (dY c f && !(f == ("__debug__" : ac)) && !as.any bO && decide (as.length < 20)) = true) (hi : gK.idxOf? f = some i) (h : aS (ay k c false) as = some es) : cX k c t (.Call (.Name f px) as [] p) (.fn (if i == 20 then 1 else i) es)
 | new {f : ac} {px p : aJ} {i : Nat} (q : (dY c f && !(f == ("__debug__" : ac)) && !([] : List Expr).any bO && decide (([] : List Expr).length < 20)) = true) (hi : lY.idxOf? f = some i) : cX k c t (.Call (.Name f px) [] [] p) (.new i)
 | bi {f : ac} {px p : aJ} {as : List Expr} {i : Nat} {b : Bi} {es : List E} (q : (dY c f && !(f == ("__debug__" : ac)) && !as.any bO && decide (as.length < 20)) = true) (hi : dQ.idxOf? f = some i) (hb : vk t i = some b) (h : aS (ay k c false) as = some es) : cX k c t (.Call (.Name f px) as [] p) (.bi b es)
 | sorted {f : ac} {px p : aJ} {as : List Expr} {es : List E} (q : (dY c f && !(f == ("__debug__" : ac)) && !as.any bO && decide (as.length < 20)) = true) (hi : dQ.idxOf? f = some 5) (h : aS (ay k c false) as = some es) : cX k c t (.Call (.Name f px) as [] p) (.bi .sorted es)
 | sortedSet {f g : ac} {px pg pa p : aJ} {x : Expr} {a : E} (q : (dY c f && !(f == ("__debug__" : ac)) && ![Expr.Call (.Name g pg) [x] [] pa].any bO && decide ([Expr.Call (.Name g pg) [x] [] pa].length < 20)) = true) (hi : dQ.idxOf? f = some 5) (hg : (dY c g && g == ("set" : ac) && !bO x) = true) (h : ay k c false x = some a) : cX k c t (.Call (.Name f px) [.Call (.Name g pg) [x] [] pa] [] p) (.bi .sortedSet [a])
 | bad {f : Expr} {as : List Expr} {ks : List w7} {p : aJ} : cX k c t (.Call f as ks p) .bad
 | comp {elt tg it : Expr} {ifs : List Expr} {sc : cD} {p : aJ} {UT : List Nat} {one : Bool} {SH : It} {Sj : E} {Sh : List E} (h1 : jU (di sc c) tg = some (UT, one)) (h2 : gM k c it = some SH) (h3 : ay k (di sc c) false elt = some Sj) (h4 : aS (ay k (di sc c) false) ifs = some Sh) (q : rz c sc UT one SH = true) : cX k c t (.ListComp elt [⟨tg, it, ifs, 0⟩] sc p) (.comp t Sj UT one SH Sh c.n (dy sc).length)
section
variable {k : Nat} {c : TC} {t : Bool} {e' : E} {G : Prop}
theorem nX {α β : Type} {l : List α} {f : α -> Option β} {r : β} (h : l1 l f = some r) (g : ∀ a, l = [a] -> f a = some r -> G) : G := by
 cases l with
 | nil => exact aD h
 | cons a l => cases l with
  | nil => exact g a rfl h
  | cons => exact aD h
theorem ku {α β : Type} {l : List α} {x : Option β} {r : β} (h : l0 l x = some r) (g : l = [] -> x = some r -> G) : G := by
 cases l with
 | nil => exact g rfl h
 | cons => exact aD h
theorem iy {α β : Type} {x : Option α} {f : α -> Option β} {y : Option β} {r : β} (h : oEl x f y = some r) (g : ∀ a, x = some a -> f a = some r -> G) (k : x = none -> y = some r -> G) : G := by
 cases x with
 | none => exact k rfl h
 | some a => exact g a rfl h
theorem vz {α : Type} {e : Expr} {f : ac -> Option α} {r : α} (h : rY e f = some r) (g : ∀ x p, e = .Name x p -> f x = some r -> G) : G := by
 cases e with
 | Name x p => exact g x p rfl h
 | _ => exact aD h
theorem H8 {α : Type} {e : Expr} {f : Expr -> List Expr -> List w7 -> Option α} {r : α} (h : Bt e f = some r) (g : ∀ f' as ks p, e = .Call f' as ks p -> f f' as ks = some r -> G) : G := by
 cases e with
 | Call f' as ks p => exact g f' as ks p rfl h
 | _ => exact aD h
theorem LV {e : Expr} {r : List (Option Expr) × List Expr} (h : dictOf e = some r) (g : ∀ p, e = .Dict r.1 r.2 p -> G) : G := by
 cases e with
 | Dict ks vs p => exact eD h fun e => g p (by rw [<-e])
 | _ => exact aD h
theorem Mn {e : Expr} {r : Option Expr × Option Expr × Option Expr} (h : mq e = some r) (g : ∀ p, e = .Slice r.1 r.2.1 r.2.2 p -> G) : G := by
 cases e with
 | Slice lo hi st p => exact eD h fun e => g p (by rw [<-e])
 | _ => exact aD h
theorem rB {e : Expr} {r : List Expr} (h : lT e = some r) (g : ∀ a p, e = .Tuple r a p -> G) : G := by
 cases e with
 | Tuple es a p => exact eD h fun e => g a p (by rw [e])
 | _ => exact aD h
theorem rO {x : ac} {i : Nat} (h : sq c x = some i) : c.tab.lookup x = some i /\ (c.scope.names.lookup x = some .local \/ c.scope.names.lookup x = some .cell) :=
 bv h fun j h1 h => bv h fun k h2 h => bT h fun q e => ⟨eD e fun e => e ▸ h1, by
  rw [h2]
  exact (oE.mp (bk.mp (bk.mp q).1).1).imp (fun e => congrArg some (eq_of_beq e)) fun e => congrArg some (eq_of_beq e)⟩
theorem og {a b : Bool} (h : ¬ (a || b) = true) : a = false /\ b = false := jr.mp (lq.mpr h)
theorem vh {n : Nat} (h : decide (100 < n) = false) : n <= 100 := qL.mp (of_decide_eq_false h)
theorem JS {as : List Expr} {r : ac × Expr} (h : zq as = some r) (g : ∀ pg pa, as = [.Call (.Name r.1 pg) [r.2] [] pa] -> G) : G :=
 nX h fun a e h => H8 h fun f xs ks pa e1 h => vz h fun g' pg e2 h => nX h fun x e3 h => ku h fun e4 h => eD h fun e5 => g pg pa (by rw [e, e1, e2, e3, e4, <-e5])
theorem yP {elt : Expr} {gens : List Comprehension} {sc : cD} {p : aJ} (h : ay (k + 1) c t (.ListComp elt gens sc p) = some e')
  (g : ∀ tg it ifs UT one SH Sj Sh, gens = [⟨tg, it, ifs, 0⟩] -> jU (di sc c) tg = some (UT, one) -> gM k c it = some SH -> ay k (di sc c) false elt = some Sj -> aS (ay k (di sc c) false) ifs = some Sh -> rz c sc UT one SH = true -> .comp t Sj UT one SH Sh c.n (dy sc).length = e' -> G) : G :=
 nX h fun gn e h => bT h fun e0 h => bv h fun tg h1 h => bv h fun it h2 h => bv h fun elt h3 h => bv h fun ifs h4 hh => by
  cases gn with
  | mk a b d z =>
   rw [show z = 0 from e0] at e
   exact bT hh fun q h' => g a b d tg.1 tg.2 it elt ifs e h1 h2 h3 h4 q (aC h')
theorem O2 {f : ac} {px p : aJ} {as : List Expr} (q : (dY c f && !(f == ("__debug__" : ac)) && !as.any bO && decide (as.length < 20)) = true)
  (h : zf c t as (ay k c false) (aS (ay k c false) as) (gK.idxOf? f) (lY.idxOf? f) (dQ.idxOf? f) = some e') : cX k c t (.Call (.Name f px) as [] p) e' :=
 iy h (fun i e1 h => bd h fun es h1 h => h ▸ .fn q e1 h1) fun u' h => iy h (fun i e2 h => ku h fun ea h => eD h fun e => by
  rw [ea] at q ⊢; exact e ▸ .new q e2) fun u' h => bv h fun i e3 h => ew h (fun u' h => eD h fun e => e ▸ .bad) fun u' h => ew h (fun e5 h => by
   rw [e5] at e3
   have plain : (aS (ay k c false) as).map (E.bi .sorted) = some e' -> cX k c t (.Call (.Name f px) as [] p) e' := fun h => bd h fun es h1 h => h ▸ .sorted q e3 h1
   exact iy h (fun r hr h => ew h (fun hg h => JS hr fun pg pa ea => bd h fun a h1 h => by
    rw [ea] at q ⊢; exact h ▸ .sortedSet q e3 hg h1) fun u' h => plain h) fun u' h => plain h) fun u' h => bv h fun b hb h => bd h fun es h1 h => h ▸ .bi q e3 hb h1
theorem KN {v sl : Expr} {p : aJ} (h : ay (k + 1) c t (.Subscript v sl p) = some e') : cX k c t (.Subscript v sl p) e' :=
 iy h (fun r hr h => bv h fun ks h1 h => bv h fun es h2 h => bv h fun s h3 h => bT h fun q h => eD h fun e => LV hr fun dp ev => by
   rw [ev]
   obtain ⟨q, q3⟩ := bk.mp q
   obtain ⟨q1, q2⟩ := bk.mp q
   exact e ▸ .dictSel h1 h2 h3 (eq_of_beq q1) (of_decide_eq_true q2) (of_decide_eq_true q3))
  fun u' h => iy h (fun r hr h => iy h (fun u' u' h => aD h) fun e1 h => bv h fun v' h1 h => bv h fun lo h2 h => bd h fun hi h3 e => Mn hr fun sp es => by
   rw [es, e1]; exact e ▸ .slice h1 h2 h3)
  fun hs h => bv h fun a h1 h => bd h fun b h2 e => e ▸ .sub hs h1 h2
theorem Ac {e : Expr} (h : ay (k + 1) c t e = some e') : cX k c t e e' := by
 cases e with
 | Constant x a p => exact bd h fun v h1 h => h ▸ .const h1
 | Name x p => exact bd h fun v h1 h => h ▸ .name h1
 | BoolOp op vs p => exact mu h fun q h => bd h fun v h1 h => h ▸ .bop (lq.mpr q) h1
 | BinOp l op r p => exact bv h fun o h1 h => bv h fun a h2 h => bd h fun b h3 h => h ▸ .bin h1 h2 h3
 | UnaryOp op x p =>
  cases op with
  | USub => exact bd h fun v h1 h => h ▸ .neg h1
  | Not => exact bd h fun v h1 h => h ▸ .not h1
  | _ => exact aD h
 | IfExp a b d p => exact bv h fun a h1 h => bv h fun b h2 h => bd h fun d h3 h => h ▸ .ite h1 h2 h3
 | Dict ks vs p => exact ku h fun e1 h => ku h fun e2 h => eD h fun e => by rw [e1, e2]; exact e ▸ .edict
 | List es p => exact mu h fun q h => bd h fun v h1 h => h ▸ .list (og q).1 (vh (og q).2) h1
 | Tuple es a p => exact mu h fun q h => bd h fun v h1 h => h ▸ .tup (og q).1 (vh (og q).2) h1
 | Compare l ops rs p =>
  refine nX h fun op e1 h => nX h fun r e2 h => mu h fun q h => bv h fun o h1 h => bv h fun a h2 h => bd h fun b h3 h => ?_
  rw [e1, e2]; exact h ▸ .cmp (lq.mpr q) h1 h2 h3
 | Attribute v a p => exact bT h fun q h => bv h fun o h1 h => bd h fun i h2 h => h ▸ .attr q h1 h2
 | Subscript v sl p => exact KN h
 | Call f as kws p =>
  refine ku h fun e1 h => ?_
  rw [e1]
  cases f with
  | Attribute o m ap => exact bT h fun q h => bv h fun o h1 h => bv h fun i h2 h => bd h fun es h3 h => h ▸ .meth q h1 h2 h3
  | Name f px => exact bT h fun q h => O2 q h
  | _ => exact aD h
 | ListComp elt gens sc p => exact yP h fun u' u' u' u' u' u' u' u' eg e3 e4 e5 e6 q e => by rw [eg]; exact e ▸ .comp e3 e4 e5 e6 q
 | _ => exact aD h
end
end
end
section
set_option backward.match.sparseCases false
noncomputable section
def EvK (P : cn) (r : hY) (loc : Loc) (H : AH) (e : E) (y : V) (H' : AH) (G : Prop) : Prop := match e with
 | .const v => (y = v -> H' = H -> G) -> G
 | .loc i => (loc[i]? = some (some y) -> H' = H -> G) -> G
 | .tup es => (∀ vs, cW r.eval es loc H = some (vs, H') -> y = .tup vs -> G) -> G
 | .list t es => (∀ vs H1, cW r.eval es loc H = some (vs, H1) -> y = (bh H1 t vs).1 -> H' = (bh H1 t vs).2 -> G) -> G
 | .edict => (y = .ref H.length -> H' = H ++ [.dict []] -> G) -> G
 | .dictSel ks es s => (∀ vs k H1, cW r.eval es loc H = some (vs, H1) -> r.eval s loc H1 = some (.str k, H') -> (ks.zip vs).lookup k = some y -> G) -> G
 | .attr e k => (∀ i c j m, r.eval e loc H = some (.ref i, H') -> ag H' i = some (.inst c j) -> ag H' j = some (.attrs m) -> m[k]? = some (some y) -> G) -> G
 | .sub a b => (∀ x z H1, r.eval a loc H = some (x, H1) -> r.eval b loc H1 = some (z, H') -> cf H' x z = some y -> G) -> G
 | .slice t a lo hi => (∀ v l h xs l' h' H1 H2 H3, r.eval a loc H = some (v, H1) -> kP r.eval lo loc H1 = some (l, H2) -> kP r.eval hi loc H2 = some (h, H3) -> bK H3 v = some xs -> fN l = some l' -> fN h = some h' -> y = (bh H3 t (d6 xs l' h')).1 -> H' = (bh H3 t (d6 xs l' h')).2 -> G) -> G
 | .bin op a b => (∀ x z H1 H2, r.eval a loc H = some (x, H1) -> r.eval b loc H1 = some (z, H2) -> hO H2 op x z = some (y, H') -> G) -> G
 | .neg a => (∀ k, r.eval a loc H = some (.int k, H') -> y = .int (-k) -> G) -> G
 | .not a => (∀ k, r.eval a loc H = some (.bool k, H') -> y = .bool (!k) -> G) -> G
 | .cmp op a b => (∀ x z k H1, r.eval a loc H = some (x, H1) -> r.eval b loc H1 = some (z, H') -> bF H' op x z = some k -> y = .bool k -> G) -> G
 | .bop Sl es => (lN r.eval Sl es loc H = some (y, H') -> G) -> G
 | .ite t a b => (∀ k H1, r.eval t loc H = some (.bool k, H1) -> r.eval (if k = true then a else b) loc H1 = some (y, H') -> G) -> G
 | .fn f es => (∀ vs H1, cW r.eval es loc H = some (vs, H1) -> r.call f vs H1 = some (y, H') -> G) -> G
 | .new c => (∀ f, P.init c = some f -> r.call f [.ref H.length] (H ++ [.inst c (H.length + 1), .attrs (fJ P.nattr Option.none)]) = some (.none, H') -> y = .ref H.length -> G) -> G
 | .bi b es => (∀ vs H1, cW r.eval es loc H = some (vs, H1) -> dq H1 b vs = some (y, H') -> G) -> G
 | .meth o m es => (∀ i vs H1 H2, r.eval o loc H = some (.ref i, H1) -> cW r.eval es loc H1 = some (vs, H2) →
   ((∃ l0 l, ag H1 i = some (.list l0) /\ ag H2 i = some (.list l) /\ dB H2 i l m vs = some (y, H')) \/ (∃ l0 l, ag H1 i = some (.dict l0) /\ ag H2 i = some (.dict l) /\ gQ H2 i l m vs = some (y, H')) ∨
   (∃ c j ma f, ag H1 i = some (.inst c j) /\ ag H1 j = some (.attrs ma) /\ P.meth c m = some f /\ r.call f (.ref i :: vs) H2 = some (y, H'))) -> G) -> G
 | .comp t elt tg one it ifs base n => (∀ items g xs H1 H2, iter r.eval it loc H = some (items, g, H1) -> loc.length = base -> items.length < 4096 -> ig r.eval elt tg one ifs g items (loc ++ fJ n Option.none) H1 = some (xs, H2) -> y = (bh H2 t xs).1 -> H' = (bh H2 t xs).2 -> G) -> G
 | .bad => G
section
variable {P : cn} {r : hY} {loc : Loc} {H H' : AH} {y : V} {G : Prop}
theorem Ix {v x : V} {k : Nat} (h : eP H v k = some x) (g : ∀ i c j m, v = .ref i -> ag H i = some (.inst c j) -> ag H j = some (.attrs m) -> m[k]? = some (some x) -> G) : G :=
 uW h fun i e1 h => zm h fun c j e2 h => BO h fun m e3 h => g i c j m e1 e2 e3 (OQ h)
def Ht (P : cn) (r : hY) (H1 H2 : AH) (i m : Nat) (vs : List V) (y : V) (H' : AH) : Prop := (∃ l0 l, ag H1 i = some (.list l0) /\ ag H2 i = some (.list l) /\ dB H2 i l m vs = some (y, H')) \/ (∃ l0 l, ag H1 i = some (.dict l0) /\ ag H2 i = some (.dict l) /\ gQ H2 i l m vs = some (y, H')) ∨
   (∃ c j ma f, ag H1 i = some (.inst c j) /\ ag H1 j = some (.attrs ma) /\ P.meth c m = some f /\ r.call f (.ref i :: vs) H2 = some (y, H'))
theorem LY {m i : Nat} {es : List E} {H1 : AH} (h : gO (ag H1 i) (kM P (iM r).c (fj (prE r) es) i m loc H1 (iu y H'))) (g : ∀ vs H2, cW r.eval es loc H1 = some (vs, H2) -> Ht P r H1 H2 i m vs y H' -> G) : G :=
 yT h fun o e2 h => match o, e2, h with
  | .list l0, e2, h => iU h fun vs H2 e3 h => vG h fun l e4 h => r9 h fun a b e5 h => g vs H2 e3 (.inl ⟨l0, l, e2, e4, by rw [e5, h.1, h.2]⟩)
  | .dict l0, e2, h => iU h fun vs H2 e3 h => HQ h fun l e4 h => r9 h fun a b e5 h => g vs H2 e3 (.inr (.inl ⟨l0, l, e2, e4, by rw [e5, h.1, h.2]⟩))
  | .inst c j, e2, h => yT h fun o e3 h => match o, e3, h with
   | .attrs ma, e3, h => gy h fun f e4 h => iU h fun vs H2 e5 h => bz h fun a b e6 h => g vs H2 e5 (.inr (.inr ⟨c, j, ma, f, e2, e3, e4, by rw [e6, h.1, h.2]⟩))
theorem cU {n : Nat} {e : E} (h : (I P (n + 1)).eval e loc H = some (y, H')) (G : Prop) : EvK P (I P n) loc H e y H' G := by
 replace h := BB h
 generalize I P n = r at h
 cases e with
 | const v => exact fun g => g h.1.symm h.2.symm
 | loc i => exact OB h fun v e1 h => fun g => g (by rw [e1, h.1]) h.2.symm
 | tup es => exact iU h fun vs H1 e1 h => fun g => g vs (by rw [e1, h.2]) h.1.symm
 | list t es => exact iU h fun vs H1 e1 h => fun g => g vs H1 e1 h.1.symm h.2.symm
 | edict => exact fun g => g h.1.symm h.2.symm
 | dictSel ks es s => exact iU h fun vs H1 e1 h => bz h fun k H2 e2 h => Px h fun x e3 h => gy h fun v e4 h => fun g => g vs x H1 e1 (by rw [e2, e3, h.2]) (by rw [e4, h.1])
 | attr e k => exact bz h fun v H1 e1 h => gy h fun x e2 h => Ix e2 fun i c j m e3 e4 e5 e6 => fun g => g i c j m (by rw [e1, e3, h.2]) (h.2 ▸ e4) (h.2 ▸ e5) (by rw [e6, h.1])
 | sub a b => exact bz h fun x H1 e1 h => bz h fun z H2 e2 h => gy h fun v e3 h => fun g => g x z H1 e1 (by rw [e2, h.2]) (by rw [<-h.2, e3, h.1])
 | slice t a lo hi => exact bz h fun v H1 e1 h => B7 h fun l H2 e2 h => B7 h fun u H3 e3 h => gy h fun xs e4 h => gy h fun l' e5 h => gy h fun h' e6 h => fun g => g v l u xs l' h' H1 H2 H3 e1 e2 e3 e4 e5 e6 h.1.symm h.2.symm
 | bin op a b => exact bz h fun x H1 e1 h => bz h fun z H2 e2 h => r9 h fun v H3 e3 h => fun g => g x z H1 H2 e1 e2 (by rw [e3, h.1, h.2])
 | neg a => exact bz h fun x H1 e1 h => su h fun k e2 h => fun g => g k (by rw [e1, e2, h.2]) h.1.symm
 | not a => exact bz h fun x H1 e1 h => mw h fun k e2 h => fun g => g k (by rw [e1, e2, h.2]) h.1.symm
 | cmp op a b => exact bz h fun x H1 e1 h => bz h fun z H2 e2 h => gy h fun k e3 h => fun g => g x z k H1 e1 (by rw [e2, h.2]) (by rw [<-h.2, e3]) h.1.symm
 | bop Sl es => exact fun g => g (lS (ou (bL r.eval) Sl es loc H) h)
 | ite t a b => exact bz h fun x H1 e1 h => mw h fun k e2 h => fun g => g k H1 (by rw [e1, e2]) (by
   cases k with
   | true => exact bz (show WO (r.eval a loc H1) (iu y H') from h) fun a b e3 h => by rw [if_pos rfl, e3, h.1, h.2]
   | false => exact bz (show WO (r.eval b loc H1) (iu y H') from h) fun a b e3 h => by rw [if_neg (by decide), e3, h.1, h.2])
 | fn f es => exact iU h fun vs H1 e1 h => bz h fun a b e2 h => fun g => g vs H1 e1 (by rw [e2, h.1, h.2])
 | new c => exact gy h fun f e1 h => bz h fun a b e2 h => fun g => g f e1 (by rw [e2, h.1, h.2.2]) h.2.1.symm
 | bi b es => exact iU h fun vs H1 e1 h => r9 h fun a b e2 h => fun g => g vs H1 e1 (by rw [e2, h.1, h.2])
 | meth o m es => exact bz h fun v H1 e1 h => GB h fun i e2 h => LY h fun vs H2 e3 h => fun g => g i vs H1 H2 (by rw [e1, e2]) e3 h
 | comp t elt tg one it ifs base n =>
  exact yz h fun items g' H1 e1 h => yX h.2 fun xs H2 e2 h' => fun g => g items g' xs H1 H2 e1 h.1.1 h.1.2 e2 h'.1.symm h'.2.symm
 | bad => exact h.elim
end
end
end
section
structure Tk where
 pv : List ak
 tr : List ak
noncomputable def Tk.all (σ : Tk) : List ak := σ.pv ++ σ.tr
noncomputable def Tk.add (σ : Tk) (t : List ak) : Tk := ⟨σ.pv, σ.tr ++ t⟩
mutual
noncomputable def VR (σ : Tk) (h : ao) : V -> aa -> Prop
 | .none, v => v = Value.none
 | .bool b, v => v = Value.bool b
 | .int i, v => ∃ t, v = Value.int i t
 | .str x, v => ∃ t, v = Value.str x t
 | .tup l, v => ∃ a vs, v = Value.ref a /\ a ∉ σ.all /\ oF h a vs /\ l.length < 100000 /\ an σ h l vs.toList
 | .lst l, v => ∃ a vs, v = Value.ref a /\ a ∉ σ.all /\ h.IsList a vs /\ l.length < 100000 /\ an σ h l vs.toList /\ (l.all V.isInt = true \/ h.PlainList a vs)
 | .ref i, v => ∃ a, σ.tr[i]? = some a /\ v = Value.ref a
noncomputable def an (σ : Tk) (h : ao) : List V -> List aa -> Prop
 | [], vs => vs = []
 | x :: r, vs => ∃ v q, vs = v :: q /\ VR σ h x v /\ an σ h r q
end
structure bM (σ : Tk) (h : ao) (RZ : Tk) (h' : ao) : Prop where
 pre : ∃ t, RZ = σ.add t /\ ∀ a ∈ t, h.get? a = Option.none
 keep : ∀ b o, b ∉ σ.tr -> h.get? b = some o -> h'.get? b = some o
theorem Tk.add_nil (σ : Tk) : σ.add [] = σ := by simp [Tk.add]
theorem Tk.tr_add (σ : Tk) (t : List ak) : (σ.add t).tr = σ.tr ++ t := rfl
theorem Tk.not_tr {σ : Tk} {a : ak} (h : a ∉ σ.all) : a ∉ σ.tr := fun q => h (be _ q)
theorem Tk.not_pv {σ : Tk} {a : ak} (h : a ∉ σ.all) : a ∉ σ.pv := fun q => h (aV _ q)
theorem bM.refl (σ : Tk) (h : ao) : bM σ h σ h := ⟨⟨[], by simp [Tk.add_nil]⟩, fun u' u' u' e => e⟩
theorem bM.memt {σ RZ : Tk} {h h' : ao} (g : bM σ h RZ h') {b : ak} {o : de} (hb : b ∉ σ.tr) (e : h.get? b = some o) : b ∉ RZ.tr := by
 obtain ⟨t, rfl, ht⟩ := g.pre
 intro hm
 rcases aW.mp hm with q | q
 ·exact hb q
 ·rw [ht b q] at e; cases e
theorem bM.pv {σ RZ : Tk} {h h' : ao} (g : bM σ h RZ h') : RZ.pv = σ.pv := by obtain ⟨t, rfl, ht⟩ := g.pre; rfl
theorem bM.mem {σ RZ : Tk} {h h' : ao} (g : bM σ h RZ h') {b : ak} {o : de} (hb : b ∉ σ.all) (e : h.get? b = some o) : b ∉ RZ.all := by
 intro hm
 rcases aW.mp hm with q | q
 ·exact Tk.not_pv hb (g.pv ▸ q)
 ·exact g.memt (Tk.not_tr hb) e q
theorem bM.at {σ RZ : Tk} {h h' : ao} (g : bM σ h RZ h') {i : Nat} {a : ak} (e : σ.tr[i]? = some a) : RZ.tr[i]? = some a := by
 obtain ⟨t, rfl, _⟩ := g.pre
 rw [Tk.tr_add, gY (bG.mp e).1]; exact e
structure Mv (σ : Tk) (h : ao) (RZ : Tk) (h' : ao) : Prop where
 mem : ∀ a o, a ∉ σ.all -> h.get? a = some o -> a ∉ RZ.all
 keep : ∀ a o, a ∉ σ.all -> h.get? a = some o -> h'.get? a = some o
 at_ : ∀ (i : Nat) a, σ.tr[i]? = some a -> RZ.tr[i]? = some a
theorem VR.mv {σ RZ : Tk} {h h' : ao} (g : Mv σ h RZ h') {x : V} : ∀ {v : aa}, VR σ h x v -> VR RZ h' x v := fun {v} =>
 V.rec (motive_1 := fun x => ∀ v, VR σ h x v -> VR RZ h' x v) (motive_2 := fun l => ∀ v, an σ h l v -> an RZ h' l v) (fun u' r => r) (fun u' u' r => r) (fun u' u' r => r) (fun u' u' r => r)
  (fun l k v r => by obtain ⟨a, vs, e, na, ⟨o, ho, t⟩, ln, q⟩ := r; exact ⟨a, vs, e, g.mem a o na ho, ⟨o, g.keep a o na ho, t⟩, ln, k _ q⟩)
  (fun l k v r => by obtain ⟨a, vs, e, na, ⟨o, ho, t⟩, ln, q, pl⟩ := r; exact ⟨a, vs, e, g.mem a o na ho, ⟨o, g.keep a o na ho, t⟩, ln, k _ q, pl.imp id fun p => p.at fun o e => g.keep a o na e⟩)
  (fun i v r => by obtain ⟨a, e, q⟩ := r; exact ⟨a, g.at_ i a e, q⟩)
  (fun u' r => r) (fun x l k1 k2 v r => by obtain ⟨a, q, e, r1, r2⟩ := r; exact ⟨a, q, e, k1 _ r1, k2 _ r2⟩) x v
theorem an.mv {σ RZ : Tk} {h h' : ao} (g : Mv σ h RZ h') : ∀ {x : List V} {v : List aa}, an σ h x v -> an RZ h' x v := by
 intro x
 induction x with
 | nil =>
  intro _ r
  exact r
 | cons x l iH =>
  intro v r
  obtain ⟨a, q, e, r1, r2⟩ := r; exact ⟨a, q, e, VR.mv g r1, iH r2⟩
theorem bM.mv {σ RZ : Tk} {h h' : ao} (g : bM σ h RZ h') : Mv σ h RZ h' := ⟨fun u' u' na ho => g.mem na ho, fun u' u' na ho => g.keep _ _ (Tk.not_tr na) ho, fun u' u' e => g.at e⟩
theorem VR.grow {σ RZ : Tk} {h h' : ao} (g : bM σ h RZ h') {x : V} {v : aa} (r : VR σ h x v) : VR RZ h' x v := r.mv g.mv
theorem an.grow {σ RZ : Tk} {h h' : ao} (g : bM σ h RZ h') {x : List V} {v : List aa} (r : an σ h x v) : an RZ h' x v := r.mv g.mv
theorem bM.trans {σ RZ SX : Tk} {h h' Wy : ao} (g : bM σ h RZ h') (k : bM RZ h' SX Wy) (XW : ∀ b o, b ∈ σ.tr -> h.get? b = some o -> (h'.get? b).isSome = true) : bM σ h SX Wy := by
 refine ⟨?_, fun b o nb e => k.keep b o (g.memt nb e) (g.keep b o nb e)⟩
 obtain ⟨t, rfl, ht⟩ := g.pre
 obtain ⟨u, rfl, hu⟩ := k.pre
 refine ⟨t ++ u, by simp [Tk.add], fun a ha => ?_⟩
 rcases aW.mp ha with q | q
 ·exact ht a q
 ·cases e : h.get? a with
  | none => rfl
  | some o =>
   by_cases m : a ∈ σ.tr
   ·have := XW a o m e; rw [hu a q] at this; cases this
   ·have := g.keep a o m e; rw [hu a q] at this; cases this
theorem an.length {σ : Tk} {h : ao} : ∀ {l : List V} {vs : List aa}, an σ h l vs -> l.length = vs.length := by
 intro l
 induction l with
 | nil =>
  intro _ r
  simp only [an] at r; subst r; rfl
 | cons _ _ iH =>
  intro _ r
  simp only [an] at r
  obtain ⟨_, _, rfl, _, q⟩ := r
  simp [iH q]
theorem an.nil {σ : Tk} {h : ao} : an σ h [] [] := by simp [an]
theorem an.cons {σ : Tk} {h : ao} {x : V} {v : aa} {l : List V} {vs : List aa} (a : VR σ h x v) (b : an σ h l vs) : an σ h (x :: l) (v :: vs) := by
 simp only [an]; exact ⟨_, _, rfl, a, b⟩
theorem an.append {σ : Tk} {h : ao} : ∀ {l q : List V} {vs us : List aa}, an σ h l vs -> an σ h q us -> an σ h (l ++ q) (vs ++ us) := by
 intro l
 induction l with
 | nil =>
  intro _ _ _ r k
  simp only [an] at r; subst r; exact k
 | cons _ _ iH =>
  intro _ _ _ r k
  simp only [an] at r
  obtain ⟨_, _, rfl, a, q⟩ := r
  exact an.cons a (iH q k)
theorem an.get {σ : Tk} {h : ao} : ∀ {l : List V} {vs : List aa}, an σ h l vs -> ∀ {i : Nat} {x : V}, l[i]? = some x -> ∃ v, vs[i]? = some v /\ VR σ h x v := by
 intro l
 induction l with
 | nil =>
  intro _ _ i x e
  simp at e
 | cons _ _ iH =>
  intro _ r i x e
  simp only [an] at r
  obtain ⟨v, q, rfl, a, k⟩ := r
  cases i with
  | zero => simp at e; subst e; exact ⟨v, rfl, a⟩
  | succ i => simp at e; obtain ⟨u, e', k'⟩ := iH k e; exact ⟨u, by simpa using e', k'⟩
theorem an.set {σ : Tk} {h : ao} {x : V} {v : aa} (a : VR σ h x v) : ∀ {l : List V} {vs : List aa}, an σ h l vs -> ∀ (i : Nat), an σ h (l.set i x) (vs.set i v) := by
 intro l
 induction l with
 | nil =>
  intro _ r i
  simp only [an] at r; subst r; simp [an]
 | cons _ _ iH =>
  intro _ r i
  simp only [an] at r
  obtain ⟨u, q, rfl, b, k⟩ := r
  cases i with
  | zero => exact an.cons a k
  | succ i => exact an.cons b (iH k i)
theorem an.take {σ : Tk} {h : ao} : ∀ {l : List V} {vs : List aa}, an σ h l vs -> ∀ n : Nat, an σ h (l.take n) (vs.take n) := by
 intro l
 induction l with
 | nil =>
  intro _ r n
  simp only [an] at r; subst r; simp [an]
 | cons _ _ iH =>
  intro _ r n
  simp only [an] at r
  obtain ⟨u, q, rfl, b, k⟩ := r
  cases n with
  | zero => simp [an]
  | succ n => exact an.cons b (iH k n)
theorem an.drop {σ : Tk} {h : ao} : ∀ {l : List V} {vs : List aa}, an σ h l vs -> ∀ n : Nat, an σ h (l.drop n) (vs.drop n) := by
 intro l
 induction l with
 | nil =>
  intro _ r n
  simp only [an] at r; subst r; simp [an]
 | cons _ _ iH =>
  intro _ r n
  simp only [an] at r
  obtain ⟨u, q, rfl, b, k⟩ := r
  cases n with
  | zero => exact an.cons b k
  | succ n => exact iH k n
section
variable (prog : aG) (w : aE)
noncomputable def cG (σ : Tk) (h : ao) : List (Int × V) -> List (Int × aa) -> Prop
 | [], kvs => kvs = []
 | (k, x) :: r, kvs => ∃ v q, kvs = (k, v) :: q /\ VR σ h x v /\ cG σ h r q
structure iF (σ : Tk) (h : ao) (m : List (Option V)) (mA : ac -> Option aa) : Prop where
 len : m.length = dE.length
 some : ∀ (k : Nat) (n : ac) (x : V), dE[k]? = Option.some n -> m[k]? = Option.some (Option.some x) -> ∃ v, mA n = Option.some v /\ VR σ h x v
 only : ∀ n, (mA n).isSome = true -> ∃ (k : Nat) (x : V), dE[k]? = Option.some n /\ m[k]? = Option.some (Option.some x)
structure aZ where
 at_ : Nat -> ak
 ns : Nat -> ak
 nm : Nat -> ac -> Option aa
noncomputable def dt (cls : aZ) (σ : Tk) (h : ao) (a : ak) : ar -> Prop
 | .list l => ∃ vs, h.PlainList a vs /\ l.length < 100000 /\ an σ h l vs.toList
 | .dict l => ∃ kvs, h.DictOf (lr prog w) a kvs /\ (a == xa) = false /\ l.length < 100000 /\ cG σ h l kvs
 | .inst c j => c < 2 /\ ∃ d o, σ.tr[j]? = some d /\ h.get? a = some o /\ o.cls = .ref (cls.at_ c) /\ (∀ k, o.data ≠ .cls k) /\ o.dict = some d /\ d ≠ a
 | .attrs m => ∃ mA, h.Ns1 a mA /\ h.ExactDictFk a /\ iF σ h m mA
structure aq (cls : aZ) (RY : ao) (σ : Tk) (H : AH) (h : ao) : Prop where
 keep : ∀ b o, RY.get? b = some o -> h.get? b = some o
 len : σ.tr.length = H.length
 fresh : ∀ a ∈ σ.all, RY.get? a = Option.none
 nodup : σ.all.Nodup
 pvs : ∀ a ∈ σ.pv, ∃ ob, h.get? a = some ob
 objs : ∀ (i : Nat) (a : ak) (o : ar), σ.tr[i]? = some a -> H[i]? = some o -> dt prog w cls σ h a o
end
theorem cG.mv {σ RZ : Tk} {h h' : ao} (g : Mv σ h RZ h') : ∀ {l : List (Int × V)} {kvs : List (Int × aa)}, cG σ h l kvs -> cG RZ h' l kvs := by
 intro l
 induction l with
 | nil =>
  intro _ r
  exact r
 | cons Se l iH =>
  obtain ⟨k, x⟩ := Se
  intro kvs r
  obtain ⟨v, q, e, r1, r2⟩ := r; exact ⟨v, q, e, r1.mv g, iH r2⟩
theorem cG.grow {σ RZ : Tk} {h h' : ao} (g : bM σ h RZ h') {l : List (Int × V)} {kvs : List (Int × aa)} (r : cG σ h l kvs) : cG RZ h' l kvs := r.mv g.mv
theorem iF.mv {σ RZ : Tk} {h h' : ao} (g : Mv σ h RZ h') {m : List (Option V)} {mA : ac -> Option aa} (r : iF σ h m mA) : iF RZ h' m mA :=
 ⟨r.len, fun k n x e1 e2 => let ⟨v, a, b⟩ := r.some k n x e1 e2; ⟨v, a, b.mv g⟩, r.only⟩
theorem iF.grow {σ RZ : Tk} {h h' : ao} (g : bM σ h RZ h') {m : List (Option V)} {mA : ac -> Option aa} (r : iF σ h m mA) : iF RZ h' m mA := r.mv g.mv
section
variable {prog : aG} {w : aE} {cls : aZ} {RY h h' : ao} {σ RZ : Tk} {H : AH}
theorem dt.there {a : ak} {o : ar} (r : dt prog w cls σ h a o) : ∃ ob, h.get? a = some ob := by
 cases o with
 | list l => obtain ⟨vs, ⟨n, e⟩, _⟩ := r; exact ⟨_, e⟩
 | dict l => obtain ⟨kvs, ⟨o, _, _, e, _⟩, _⟩ := r; exact ⟨_, e⟩
 | inst c j => obtain ⟨_, d, o, _, e, _⟩ := r; exact ⟨_, e⟩
 | attrs m => obtain ⟨mA, ⟨o, _, _, e, _⟩, _⟩ := r; exact ⟨_, e⟩
theorem aq.there (S : aq prog w cls RY σ H h) {a : ak} (ha : a ∈ σ.tr) : ∃ ob, h.get? a = some ob := by
 obtain ⟨i, hi, rfl⟩ := List.getElem_of_mem ha
 have h2 : i < H.length := S.len ▸ hi
 exact (S.objs i _ _ (bR hi) (bR h2)).there
theorem dt.mv (g : Mv σ h RZ h') {a : ak} (k : ∀ ob, h.get? a = some ob -> h'.get? a = some ob) {o : ar} (r : dt prog w cls σ h a o) : dt prog w cls RZ h' a o := by
 cases o with
 | list l => obtain ⟨vs, ⟨n, e⟩, ln, q⟩ := r; exact ⟨vs, ⟨n, k _ e⟩, ln, q.mv g⟩
 | dict l => obtain ⟨kvs, d, sm, ln, q⟩ := r; exact ⟨kvs, d.at k, sm, ln, q.mv g⟩
 | inst c j => obtain ⟨z, d, o, e1, e, r⟩ := r; exact ⟨z, d, o, g.at_ _ _ e1, k _ e, r⟩
 | attrs m => obtain ⟨mA, d, x, q⟩ := r; exact ⟨mA, d.at k, x.at k, q.mv g⟩
theorem dt.grow (g : bM σ h RZ h') {a : ak} (k : ∀ ob, h.get? a = some ob -> h'.get? a = some ob) {o : ar} (r : dt prog w cls σ h a o) : dt prog w cls RZ h' a o := r.mv g.mv k
theorem aq.trans {SX : Tk} {Wy : ao} {H' : AH} (S' : aq prog w cls RY RZ H' h') (g : bM σ h RZ h') (k : bM RZ h' SX Wy) : bM σ h SX Wy := by
 refine g.trans k fun b o hb u' => ?_
 obtain ⟨t, rfl, _⟩ := g.pre
 obtain ⟨ob, e⟩ := S'.there (aV _ hb)
 rw [e]; rfl
end
end
section
structure Nx (prog : aG) (w : aE) (cls : aZ) (RY : ao) (σ : Tk) (s : ae) (RZ : Tk) (H' : AH) (s' : ae) : Prop where
 grow : bM σ s.heap RZ s'.heap
 sim : aq prog w cls RY RZ H' s'.heap
 gens : s'.gens = s.gens
 os : s'.os = s.os
section
variable {prog : aG} {w : aE} {cls : aZ} {RY : ao}
theorem Nx.trans {σ RZ SX : Tk} {s s' UA : ae} {H' Tc : AH} (a : Nx prog w cls RY σ s RZ H' s') (b : Nx prog w cls RY RZ s' SX Tc UA) : Nx prog w cls RY σ s SX Tc UA :=
 ⟨a.sim.trans a.grow b.grow, b.sim, b.gens.trans a.gens, b.os.trans a.os⟩
theorem Nx.refl {σ : Tk} {s : ae} {H : AH} (S : aq prog w cls RY σ H s.heap) : Nx prog w cls RY σ s σ H s := ⟨bM.refl _ _, S, rfl, rfl⟩
theorem Nx.of {σ : Tk} {s s' : ae} {H : AH} (S : aq prog w cls RY σ H s.heap) (k : ∀ b o, s.heap.get? b = some o -> s'.heap.get? b = some o) (g : s'.gens = s.gens) (o : s'.os = s.os) :
  Nx prog w cls RY σ s σ H s' :=
 have G : bM σ s.heap σ s'.heap := ⟨⟨[], by simp [Tk.add_nil]⟩, fun b o u' e => k b o e⟩
 ⟨G, ⟨fun b o e => k b o (S.keep b o e), S.len, S.fresh, S.nodup, fun a ha => let ⟨ob, e⟩ := S.pvs a ha; ⟨ob, k _ _ e⟩, fun i a o e1 e2 => (S.objs i a o e1 e2).grow G fun u' e => k _ _ e⟩, g, o⟩
theorem Nx.tok {σ : Tk} {s : ae} {H : AH} (S : aq prog w cls RY σ H s.heap) (t : Nat) : Nx prog w cls RY σ s σ H { s with toks := t } := Nx.of S (fun u' u' e => e) rfl rfl
def ct (prog : aG) (w : aE) (cls : aZ) (RY : ao) (A : bm) (t : d8 aa) (σ : Tk) (s : ae) (x : V) (H' : AH) : Prop :=
 ∀ (Q : aa -> ae -> Prop) (E : aa -> ae -> Prop), (∀ RZ s' v, Nx prog w cls RY σ s RZ H' s' -> VR RZ s'.heap x v -> Q v s') -> af (am prog w) A t Q E s
def zO (prog : aG) (w : aE) (cls : aZ) (RY : ao) (A : bm) (t : d8 (List aa)) (σ : Tk) (s : ae) (x : List V) (H' : AH) : Prop :=
 ∀ (Q : List aa -> ae -> Prop) (E : aa -> ae -> Prop), (∀ RZ s' v, Nx prog w cls RY σ s RZ H' s' -> an RZ s'.heap x v -> Q v s') -> af (am prog w) A t Q E s
def xY (prog : aG) (w : aE) (cls : aZ) (RY : ao) (A : bm) (t : d8 Bool) (σ : Tk) (s : ae) (x : Bool) (H' : AH) : Prop :=
 ∀ (Q : Bool -> ae -> Prop) (E : aa -> ae -> Prop), (∀ RZ s', Nx prog w cls RY σ s RZ H' s' -> Q x s') -> af (am prog w) A t Q E s
structure aA (env : bH) (c : TC) (loc : Loc) (σ : Tk) (h : ao) : Prop where
 scope : env.scope = c.scope
 fn : c.scope.kind = .function
 glob : env.globals = ij
 blt : env.builtins = tE
 n : loc.length = c.n
 inj : ∀ x y i, c.tab.lookup x = some i -> c.tab.lookup y = some i -> x = y
 apart : ∀ x y a, env.cells.lookup x = some a -> env.cells.lookup y = some a -> x = y
 lt : ∀ x i, c.tab.lookup x = some i -> i < c.n
 nloc : env.locals ∈ σ.pv /\ env.locals ∉ σ.tr
 ncell : ∀ x a, env.cells.lookup x = some a -> a ∈ σ.pv /\ a ∉ σ.tr /\ a ≠ env.locals /\ ∃ ov, h.IsCell a ov
 locs : ∃ m, h.Ns env.locals m /\ ∀ x (i : Nat) v, c.tab.lookup x = some i -> c.scope.names.lookup x = some .local -> loc[i]? = some (some v) -> ∃ val, m x = some val /\ VR σ h v val
 cells : ∀ x (i : Nat), c.tab.lookup x = some i -> (c.scope.names.lookup x = some .cell \/ c.scope.names.lookup x = some .free) →
  ∃ a ov, env.cells.lookup x = some a /\ h.IsCell a ov /\ ∀ v, loc[i]? = some (some v) -> ∃ val, ov = some val /\ VR σ h v val
theorem aA.grow {env : bH} {c : TC} {loc : Loc} {σ RZ : Tk} {h h' : ao} (R : aA env c loc σ h) (g : bM σ h RZ h') : aA env c loc RZ h' := by
 obtain ⟨m, hn, hm⟩ := R.locs
 have kl : ∀ o, h.get? env.locals = some o -> h'.get? env.locals = some o := fun o e => g.keep _ _ R.nloc.2 e
 have kc : ∀ {x a ov}, env.cells.lookup x = some a -> h.IsCell a ov -> h'.IsCell a ov := fun e ⟨o, ho, d⟩ => ⟨o, g.keep _ _ (R.ncell _ _ e).2.1 ho, d⟩
 refine ⟨R.scope, R.fn, R.glob, R.blt, R.n, R.inj, R.apart, R.lt, ?_, ?_, ⟨m, ?_, fun x i v a b e => ?_⟩, fun x i a b => ?_⟩
 ·obtain ⟨o, _, _, ho, _⟩ := hn; exact ⟨g.pv ▸ R.nloc.1, g.memt R.nloc.2 ho⟩
 ·intro x a e
  obtain ⟨na, nt, nl, ov, ho⟩ := R.ncell x a e
  obtain ⟨o, Th, _⟩ := id ho
  exact ⟨g.pv ▸ na, g.memt nt Th, nl, ov, kc e ho⟩
 ·obtain ⟨o, es, ep, ho, r⟩ := hn; exact ⟨o, es, ep, kl _ ho, r⟩
 ·obtain ⟨val, q, r⟩ := hm x i v a b e; exact ⟨val, q, r.grow g⟩
 ·obtain ⟨ad, ov, e, hc, k⟩ := R.cells x i a b
  exact ⟨ad, ov, e, kc e hc, fun v hv => let ⟨val, q, r⟩ := k v hv; ⟨val, q, r.grow g⟩⟩
structure aR (A : bm) (n : Nat) : Prop where
 depth : A.depth + n < recursionLimit
 units : A.units + 20 * n + 100 < dR
 handled : A.handled = none
theorem aR.le {A : bm} {n m : Nat} (r : aR A n) (h : m <= n) : aR A m := ⟨by have := r.depth; trivial, by have := r.units; trivial, r.handled⟩
def SE (prog : aG) (w : aE) (cls : aZ) (RY : ao) (ev : E -> Loc -> AH -> Option (V × AH)) (n : Nat) : Prop :=
 ∀ k c t e e' loc H x H', ay k c t e = some e' -> ev e' loc H = some (x, H') →
  ∀ A env σ s, aR A n -> aA env c loc σ s.heap -> aq prog w cls RY σ H s.heap -> ct prog w cls RY A (eval e env) σ s x H'
def SB (prog : aG) (w : aE) (cls : aZ) (RY : ao) (ev : E -> Loc -> AH -> Option (V × AH)) (n : Nat) : Prop :=
 ∀ k c t e e' loc H b H', ay k c t e = some e' -> ev e' loc H = some (.bool b, H') →
  ∀ A env σ s, aR A n -> aA env c loc σ s.heap -> aq prog w cls RY σ H s.heap -> xY prog w cls RY A (isTrue e env (eval e env)) σ s b H'
theorem iN {α β : Type} {f : α -> Option β} {l : List β} (e : aS f [] = some l) : l = [] := (aC e).symm
theorem fb {α β : Type} {f : α -> Option β} {a : α} {r : List α} {l : List β} (e : aS f (a :: r) = some l) : ∃ b q, f a = some b /\ aS f r = some q /\ l = b :: q := by
 exact bv e fun b h1 e => bd e fun q h2 e => ⟨b, q, h1, h2, e.symm⟩
theorem tj {e : Expr} {r : List Expr} {env : bH} (h : bO e = false) : fK (e :: r) env = (false, eval e env) :: fK r env := by
 cases e <;> first | rfl | cases h
theorem ct.mono {A : bm} {t : d8 aa} {σ : Tk} {s : ae} {x : V} {H' : AH} (d : ct prog w cls RY A t σ s x H') {Q : aa -> ae -> Prop} {E : aa -> ae -> Prop}
  (h : ∀ RZ s' v, Nx prog w cls RY σ s RZ H' s' -> VR RZ s'.heap x v -> Q v s') : af (am prog w) A t Q E s := d Q E h
theorem kQ {ev : E -> Loc -> AH -> Option (V × AH)} {n : Nat} (ih : SE prog w cls RY ev n) {k : Nat} {c : TC} {t : Bool} : ∀ (es : List Expr) (Si : List E) (loc : Loc) (H : AH) (vs : List V) (H' : AH), es.any bO = false →
  aS (ay k c t) es = some Si -> cW ev Si loc H = some (vs, H') -> ∀ A env σ s pos, aR A n -> aA env c loc σ s.heap -> aq prog w cls RY σ H s.heap →
   zO prog w cls RY A (lu (gD pos (fK es env))) σ s vs H'
 := fun es => by
 induction es with
 | nil =>
  intro Si loc H vs H' _ Sb R9 A env σ s pos rm R S
  obtain rfl := iN Sb
  exact qH R9 fun e1 e2 Q E hQ => av (hQ σ s [] (e2 ▸ Nx.refl S) (e1 ▸ an.nil))
 | cons e r iH =>
  intro Si loc H vs H' Sr Sb R9 A env σ s pos rm R S
  obtain ⟨e', r', h1, h2, rfl⟩ := fb Sb
  obtain ⟨Wh, Wg⟩ := jr.mp Sr
  refine qB R9 fun x H1 xs hx Xy e2 Q E hQ => ?_
  have key : af (am prog w) A (do
     let v <-eval e env
     let here <-(pure [v] : d8 (List aa))
     return here ++ (<-iR here (lu (gD pos (fK r env))))) Q E s :=
   ah (ih k c t e e' loc H x H1 h1 hx A env σ s rm R S _ _ fun R6 s1 v N1 r1 => ah (av (ah (dS
    (iH r' loc H1 xs H' Wg h2 Xy A env R6 s1 pos rm (R.grow N1.grow) N1.sim _ _ fun Sf s2 q N2 r2 =>
     av (hQ Sf s2 (v :: q) (N1.trans N2) (e2 ▸ an.cons (r1.grow N2.grow) r2)))))))
  rw [tj Wh]
  exact key
end
end
section
set_option backward.match.sparseCases false
section
variable {prog : aG} {w : aE} {cls : aZ} {RY : ao} {A : bm} {σ : Tk} {s : ae} {H : AH}
theorem aq.lt {h : ao} (S : aq prog w cls RY σ H h) {a : ak} (ha : a ∈ σ.all) : a < h.objs.size := by
 rcases aW.mp ha with q | q
 ·obtain ⟨_, e⟩ := S.pvs a q; exact dT e
 ·obtain ⟨_, e⟩ := S.there q; exact dT e
theorem aq.out {h : ao} (S : aq prog w cls RY σ H h) {a : ak} (ha : h.get? a = Option.none) : RY.get? a = Option.none := by
 cases e : RY.get? a with
 | none => rfl
 | some o => rw [S.keep _ _ e] at ha; cases ha
theorem aq.new' {h : ao} (S : aq prog w cls RY σ H h) {a : ak} (ha : h.get? a = Option.none) : a ∉ σ.all := fun m => by
 rcases aW.mp m with q | q
 ·obtain ⟨_, e⟩ := S.pvs a q; rw [ha] at e; cases e
 ·obtain ⟨_, e⟩ := S.there q; rw [ha] at e; cases e
theorem aq.new {h : ao} (S : aq prog w cls RY σ H h) {a : ak} (ha : h.objs.size <= a) : a ∉ σ.all := fun m => eR _ (cH (S.lt m) ha)
theorem rD {α : Type} {l : List α} {x : α} {i : Nat} {y : α} (e : (l ++ [x])[i]? = some y) : l[i]? = some y \/ (i = l.length /\ y = x) := by
 by_cases h : i < l.length
 ·rw [gY h] at e; exact .inl e
 ·rw [mP (tv h)] at e
  right
  by_cases h2 : i - l.length = 0
  ·rw [h2] at e; simp at e; exact ⟨by trivial, e.symm⟩
  ·exfalso
   have : 1 <= i - l.length := by trivial
   rw [mQ (by simpa using this)] at e; cases e
theorem Nx.track {s' : ae} {a : ak} {o : ar} (S : aq prog w cls RY σ H s.heap) (ha : s.heap.get? a = none) (k : ∀ b ob, s.heap.get? b = some ob -> s'.heap.get? b = some ob)
  (r : dt prog w cls (σ.add [a]) s'.heap a o) (g : s'.gens = s.gens) (os : s'.os = s.os) : Nx prog w cls RY σ s (σ.add [a]) (H ++ [o]) s' := by
 have G : bM σ s.heap (σ.add [a]) s'.heap := ⟨⟨[a], rfl, fun b hb => by rw [aN.mp hb]; exact ha⟩, fun b o u' e => k b o e⟩
 have na := S.new' ha
 have SA : (σ.add [a]).all = σ.all ++ [a] := by simp [Tk.all, Tk.add]
 refine ⟨G, ⟨fun b o e => k b o (S.keep b o e), by simp [Tk.tr_add, S.len], fun b UP => ?_, ?_, fun b UP => let ⟨ob, e⟩ := S.pvs b UP; ⟨ob, k _ _ e⟩, fun i b ob e1 e2 => ?_⟩, g, os⟩
 ·rw [SA] at UP
  rcases aW.mp UP with q | q
  ·exact S.fresh b q
  ·rw [aN.mp q]; exact S.out ha
 ·rw [SA, bX]
  exact ⟨S.nodup, by simp, fun x hx y hy => by rw [aN.mp hy]; intro e; exact na (e ▸ hx)⟩
 ·rcases rD e1 with q | ⟨rfl, rfl⟩
  ·rcases rD e2 with u | ⟨rfl, rfl⟩
   ·exact (S.objs i b ob q u).grow G fun u' e => k _ _ e
   ·exfalso
    have := (bG.mp q).1
    rw [S.len] at this; exact eR _ this
  ·rw [S.len] at e2
   have : (H ++ [o])[H.length]? = some o := by simp
   rw [this] at e2; cases e2; exact r
theorem ct.ret {x : V} {v : aa} {t : d8 aa} (e : t = pure v) (S : aq prog w cls RY σ H s.heap) (r : VR σ s.heap x v) : ct prog w cls RY A t σ s x H := fun Q E h => by
 rw [e]; exact av (h σ s v (Nx.refl S) r)
theorem MG {l : List V} {vs : List aa} (S : aq prog w cls RY σ H s.heap) (r : an σ s.heap l vs) (hl : l.length < 100000) : ct prog w cls RY A (newTuple vs) σ s (.tup l) H := fun Q E h => by
 have N : Nx prog w cls RY σ s σ H { s with heap := s.heap.push { cls := .type "tuple", data := .seq vs.toArray } } := Nx.of S (fun b o e => br _ e) rfl rfl
 refine gZ (h σ _ _ N ?_) (by show vs.toArray.size <= fv; rw [qM, <-r.length, cQ]; trivial)
 simp only [VR]
 exact ⟨_, vs.toArray, rfl, S.new (bq _), ⟨_, cz _ rfl, rfl, 0, rfl⟩, hl, by simpa using r.grow N.grow⟩
theorem HO {l : List V} {vs : List aa} {t : Bool} (S : aq prog w cls RY σ H s.heap) (r : an σ s.heap l vs) (hl : l.length < 100000) : ct prog w cls RY A (tF vs) σ s (bh H t l).1 (bh H t l).2 := fun Q E h => by
 have hz : sizeOk (.seq vs.toArray) := by show vs.toArray.size <= fv; rw [qM, <-r.length, cQ]; trivial
 cases t with
 | false =>
  have N : Nx prog w cls RY σ s σ H { s with heap := s.heap.push { cls := .type "list", data := .seq vs.toArray } } := Nx.of S (fun b o e => br _ e) rfl rfl
  refine gZ (h σ _ _ N ?_) hz
  simp only [VR, bh]
  exact ⟨_, vs.toArray, rfl, S.new (bq _), ⟨_, cz _ rfl, rfl, 0, rfl⟩, hl, by simpa using r.grow N.grow, .inr ⟨0, cz _ rfl⟩⟩
 | true =>
  have hn : s.heap.get? s.heap.objs.size = none := g0 (bq _)
  have G : bM σ s.heap (σ.add [s.heap.objs.size]) (s.heap.push { cls := .type "list", data := .seq vs.toArray }) := ⟨⟨[s.heap.objs.size], rfl, fun b hb => by rw [aN.mp hb]; exact hn⟩, fun b o u' e => br _ e⟩
  have N : Nx prog w cls RY σ s (σ.add [s.heap.objs.size]) (H ++ [.list l]) { s with heap := s.heap.push { cls := .type "list", data := .seq vs.toArray } } :=
   Nx.track S hn (fun b o e => br _ e) ⟨vs.toArray, ⟨0, cz _ rfl⟩, hl, by simpa using r.grow G⟩ rfl rfl
  refine gZ (h _ _ _ N ?_) hz
  simp only [VR, bh]
  exact ⟨_, by rw [<-S.len]; simp [Tk.add], rfl⟩
theorem OZ {c : TC} {x : ac} {i : Nat} (e : pU c x = some i) : c.tab.lookup x = some i /\ ∃ k, c.scope.names.lookup x = some k /\ za k = true /\ (x == ("__debug__" : ac)) = false /\ (x == ("__classdict__" : ac)) = false :=
 bv e fun j h1 e => bv e fun k h2 e => bT e fun q e => ⟨eD e fun e => e ▸ h1, k, h2, (bk.mp (bk.mp q).1).1, mc (bk.mp (bk.mp q).1).2, mc (bk.mp q).2⟩
theorem F8 {c : TC} {x : ac} {p : aJ} {i : Nat} {loc : Loc} {v : V} {env : bH} (e : pU c x = some i) (hv : loc[i]? = some (some v)) (R : aA env c loc σ s.heap) (S : aq prog w cls RY σ H s.heap) :
  ct prog w cls RY A (eval (.Name x p) env) σ s v H := fun Q E h => by
 obtain ⟨h1, k, h2, h3, h4, h5⟩ := OZ e
 have hk : env.scope.kind = .function := R.scope ▸ R.fn
 have hl : env.kindOf x = some k := by unfold qN; rw [R.scope]; exact h2
 refine wpAny_Name ?_ h4
 have Sk : ∀ val, VR σ s.heap v val -> Q val s := fun val r => h σ s val (Nx.refl S) r
 cases k with
 | «local» =>
  obtain ⟨m, hn, hm⟩ := R.locs
  obtain ⟨val, XA, r⟩ := hm x i v h1 h2 hv
  exact wpAny_loadName_local hk hl hn XA (Sk val r)
 | cell =>
  obtain ⟨a, ov, ha, hc, hr⟩ := R.cells x i h1 (.inl h2)
  obtain ⟨val, rfl, r⟩ := hr v hv
  exact wpAny_loadName_cell hk hl ha hc (Sk val r)
 | free =>
  obtain ⟨a, ov, ha, hc, hr⟩ := R.cells x i h1 (.inr h2)
  obtain ⟨val, rfl, r⟩ := hr v hv
  exact wpAny_loadName_free hk hl ha hc (Sk val r) h5
 | _ => cases h3
theorem OL {x : Const} {v : V} {a : Nat} {p : aJ} {env : bH} (e : wG x = some v) (S : aq prog w cls RY σ H s.heap) : ct prog w cls RY A (eval (.Constant x a p) env) σ s v H := fun Q E h => by
 cases x with
 | none => cases e; exact av (h σ s _ (Nx.refl S) (by simp [VR]))
 | bool b => cases e; exact av (h σ s _ (Nx.refl S) (by simp [VR]))
 | int i => cases e; exact wpAny_mkInt (h σ _ _ (Nx.tok S _) (by simp [VR]))
 | str i => cases e; exact wpAny_mkText (h σ _ _ (Nx.tok S _) (by simp [VR]))
 | _ => cases e
variable {n : Nat} {ev : E -> Loc -> AH -> Option (V × AH)}
theorem Pb (ih : SE prog w cls RY ev n) {k : Nat} {c : TC} {es : List Expr} {Si : List E} {loc : Loc} {vs : List V} {H' : AH} {a : Nat} {p : aJ} {env : bH} (Sr : es.any bO = false) (hz : es.length < 1000)
  (Sb : aS (ay k c false) es = some Si) (R9 : cW ev Si loc H = some (vs, H')) (rm : aR A n) (R : aA env c loc σ s.heap) (S : aq prog w cls RY σ H s.heap) (hl : vs.length < 100000) :
  ct prog w cls RY A (eval (.Tuple es a p) env) σ s (.tup vs) H' := fun Q E h => by
 refine Tuple_ (kQ ih es Si loc H vs H' Sr Sb R9 A env σ s p rm R S _ _ fun R6 s1 q N1 r1 => ?_)
 exact MG N1.sim r1 hl _ _ fun Sf s2 v N2 r2 => h Sf s2 v (N1.trans N2) r2
theorem HR (ih : SE prog w cls RY ev n) {k : Nat} {c : TC} {t : Bool} {es : List Expr} {Si : List E} {loc : Loc} {vs : List V} {H' : AH} {p : aJ} {env : bH} (Sr : es.any bO = false)
  (Sb : aS (ay k c false) es = some Si) (R9 : cW ev Si loc H = some (vs, H')) (rm : aR A n) (R : aA env c loc σ s.heap) (S : aq prog w cls RY σ H s.heap) (hl : vs.length < 100000) :
  ct prog w cls RY A (eval (.List es p) env) σ s (bh H' t vs).1 (bh H' t vs).2 := fun Q E h => by
 refine List_ (kQ ih es Si loc H vs H' Sr Sb R9 A env σ s p rm R S _ _ fun R6 s1 q N1 r1 => ?_)
 exact HO N1.sim r1 hl _ _ fun Sf s2 v N2 r2 => h Sf s2 v (N1.trans N2) r2
theorem wu : ∀ {es : List E} {loc : Loc} {H H' : AH} {vs : List V}, cW ev es loc H = some (vs, H') -> vs.length = es.length := by
 intro es
 induction es with
 | nil =>
  intro _ _ _ _ e
  exact qH e fun e1 u' => by rw [e1]; rfl
 | cons _ r iH =>
  intro _ _ _ _ e
  exact qB e fun v H1 ws u' h e1 => by rw [e1]; exact congrArg (· + 1) (iH h)
theorem my {α β : Type} {f : α -> Option β} : ∀ {l : List α} {q : List β}, aS f l = some q -> q.length = l.length := by
 intro l
 induction l with
 | nil =>
  intro _ e
  rw [iN e]; rfl
 | cons _ _ iH =>
  intro _ e
  obtain ⟨_, _, _, h, rfl⟩ := fb e; simp [iH h]
end
end
section
mutual
noncomputable def cK : V -> PyData
 | .none => .none
 | .bool b => .bool b
 | .int i => .int i
 | .str x => .str x
 | .tup l => .tuple (ff l)
 | .lst l => .list (ff l)
 | .ref _ => .none
noncomputable def ff : List V -> List PyData
 | [] => []
 | a :: r => cK a :: ff r
end
theorem so   : ff  [] = ([]) := rfl
theorem sv  {a} {r} : ff  (a :: r) = (cK a :: ff r) := rfl
theorem Ck {σ : Tk} {h : ao} {f : List V -> Bool} {x : V} {v : aa} (h1 : oA f x = true) (k : ∀ l vs, f l = true -> an σ h l vs -> ∃ as, xb h vs (ff l) as) (r : VR σ h x v) : ∃ as, Reads h v (cK x) as := by
 cases x with
 | none => replace r : v = .none := r; subst r; exact ⟨_, .none⟩
 | bool b => replace r : v = .bool b := r; subst r; exact ⟨_, .bool b⟩
 | int b => obtain ⟨t, e⟩ := r; subst e; exact ⟨_, .int b t⟩
 | str b => obtain ⟨t, e⟩ := r; subst e; exact ⟨_, .str b t⟩
 | tup l =>
  obtain ⟨a, vs, e, _, ⟨o, ho, hc, m, hd⟩, _, q⟩ := r
  obtain ⟨as, z⟩ := k _ _ h1 q
  subst e; exact ⟨_, .tuple ho hc hd z⟩
 | lst l =>
  obtain ⟨a, vs, e, _, ⟨o, ho, hc, m, hd⟩, _, q, _⟩ := r
  obtain ⟨as, z⟩ := k _ _ h1 q
  subst e; exact ⟨_, .list ho hc hd z⟩
 | ref i => exact aY h1
theorem yU {σ : Tk} {h : ao} {n : Nat} (ih : ∀ (x : V) (v : aa), aI n x = true -> VR σ h x v -> ∃ as, Reads h v (cK x) as) : ∀ {x : List V} {v : List aa}, (∀ y ∈ x, aI n y = true) -> an σ h x v -> ∃ as, xb h v (ff x) as := by
 intro x
 induction x with
 | nil =>
  intro v _ r
  replace r : v = [] := r; subst r; exact ⟨_, .nil⟩
 | cons a l iH =>
  intro v k r
  obtain ⟨u, q, e, r1, r2⟩ := r
  obtain ⟨as, z⟩ := ih _ _ (k a (.head _)) r1
  obtain ⟨bs, y⟩ := iH (fun y hy => k y (.tail _ hy)) r2
  subst e; exact ⟨_, .cons z y⟩
theorem VR.reads {σ : Tk} {h : ao} {n : Nat} : ∀ {x : V} {v : aa}, aI n x = true -> VR σ h x v -> ∃ as, Reads h v (cK x) as := by
 induction n with
 | zero =>
  intro x v k
  exact Ck (f := fun u' => false) (by cases x <;> exact k) fun l vs e => aY e
 | succ n ih =>
  intro x v k
  exact Ck (f := fun l => l.all (aI n)) (by cases x <;> exact k) fun l vs e q => yU (fun u' u' => ih) (bJ.mp e) q
theorem an.reads {σ : Tk} {h : ao} {n : Nat} {x : List V} {v : List aa} : (∀ y ∈ x, aI n y = true) -> an σ h x v -> ∃ as, xb h v (ff x) as := yU fun u' u' => VR.reads
theorem mn : ∀ (n : Nat) (x : V), aI n x = true -> (cK x).canLay0 = true /\ (cK x).depth <= n := by
 have all : ∀ (n : Nat), (∀ x, aI n x = true -> (cK x).canLay0 = true /\ (cK x).depth <= n) -> ∀ l : List V, (∀ x ∈ l, aI n x = true) -> xc (ff l) = true /\ CG (ff l) <= n := by
  intro n ih l
  induction l with
  | nil => intro _; simp [so, sv, xc, CG]
  | cons a l hi =>
   intro k
   have h1 := ih a (k a (.head _))
   have h2 := hi fun x hx => k x (.tail _ hx)
   simp only [so, sv, xc, CG, h1.1, h2.1, Bool.and_self, true_and]
   have := h1.2; have := h2.2; trivial
 intro n
 induction n with
 | zero =>
  intro x k
  cases x with
  | str x => rw [wJ] at k; exact ⟨k, dZ _⟩
  | none | bool | int => exact ⟨rfl, dZ _⟩
  | _ => exact aY k
 | succ n ih =>
  intro x k
  cases x with
  | tup l =>
   have q := all n ih l (bJ.mp k)
   exact ⟨q.1, mK q.2⟩
  | lst l =>
   have q := all n ih l (bJ.mp k)
   exact ⟨q.1, mK q.2⟩
  | str x => rw [wJ] at k; exact ⟨k, dZ _⟩
  | none | bool | int => exact ⟨rfl, dZ _⟩
  | ref => exact aY k
theorem s9 {x : V} (h : aI 8 x = true) : PZ (cK x) = true := by
 obtain ⟨a, b⟩ := mn 8 x h
 simp only [PZ, a, P2, decide_eq_true_eq]; trivial
theorem pz {x y : V} (e : lv (cK x) (cK y) = false) (n : x ≠ y) : lv (cK x) (cK y) = true ↔ x = y := ⟨fun z => aY (e.symm.trans z), fun z => absurd z n⟩
theorem Cd {x y : V} {f g : List V -> Bool} (h1 : oA f x = true) (h2 : oA g y = true) (k : ∀ l q, f l = true -> g q = true -> (P3 (ff l) (ff q) = true ↔ l = q)) : lv (cK x) (cK y) = true ↔ x = y := by
 cases x with
 | bool | ref => exact aY h1
 | none => cases y with
  | none => exact ⟨fun u' => rfl, fun u' => rfl⟩
  | bool | ref => exact aY h2
  | _ => exact pz rfl nofun
 | int i => cases y with
  | int j => exact ⟨fun e => congrArg V.int (eq_of_beq e), fun e => V.int.inj e ▸ beq_self_eq_true i⟩
  | bool | ref => exact aY h2
  | _ => exact pz rfl nofun
 | str i => cases y with
  | str j => exact ⟨fun e => congrArg V.str (eq_of_beq e), fun e => V.str.inj e ▸ beq_self_eq_true i⟩
  | bool | ref => exact aY h2
  | _ => exact pz rfl nofun
 | tup l => cases y with
  | tup q => exact (k l q h1 h2).trans ⟨fun e => congrArg V.tup e, fun e => V.tup.inj e⟩
  | bool | ref => exact aY h2
  | _ => exact pz rfl nofun
 | lst l => cases y with
  | lst q => exact (k l q h1 h2).trans ⟨fun e => congrArg V.lst e, fun e => V.lst.inj e⟩
  | bool | ref => exact aY h2
  | _ => exact pz rfl nofun
theorem Bg : ∀ (n : Nat) (x y : V) (k : Nat), aI n x = true -> aI k y = true -> (lv (cK x) (cK y) = true ↔ x = y) := by
 have all : ∀ (n : Nat), (∀ x y k, aI n x = true -> aI k y = true -> (lv (cK x) (cK y) = true ↔ x = y)) -> ∀ (k : Nat) (l q : List V), (∀ x ∈ l, aI n x = true) -> (∀ x ∈ q, aI k x = true) →
   (P3 (ff l) (ff q) = true ↔ l = q) := by
  intro n ih k l
  induction l with
  | nil =>
   intro q _ _
   cases q with
   | nil => exact ⟨fun u' => rfl, fun u' => rfl⟩
   | cons => exact ⟨fun e => aY e, nofun⟩
  | cons a l hi =>
   intro q h1 h2
   cases q with
   | nil => exact ⟨fun e => aY e, nofun⟩
   | cons b q =>
    have q1 := ih a b k (h1 a (.head _)) (h2 b (.head _))
    have q2 := hi q (fun x hx => h1 x (.tail _ hx)) fun x hx => h2 x (.tail _ hx)
    exact bk.trans ((and_congr q1 q2).trans ⟨fun e => e.1 ▸ e.2 ▸ rfl, fun e => fw e⟩)
 have fm : ∀ n x, aI n x = oA (fun l => match n with | 0 => false | n + 1 => l.all (aI n)) x := fun n u' => by cases n <;> rfl
 intro n
 induction n with
 | zero =>
  intro x y k h1 h2
  rw [fm] at h1 h2
  exact Cd h1 h2 fun l q h u' => aY h
 | succ n ih =>
  intro x y k h1 h2
  rw [fm] at h1 h2
  refine Cd h1 h2 fun l q h1 h2 => ?_
  cases k with
  | zero => exact aY h2
  | succ k => exact all n ih k l q (bJ.mp h1) (bJ.mp h2)
theorem v7 {n k : Nat} {x y : V} (h1 : aI n x = true) (h2 : aI k y = true) : lv (cK x) (cK y) = decide (x = y) := by
 have q := Bg n x y k h1 h2
 by_cases e : x = y
 ·rw [decide_eq_true e]; exact q.mpr e
 ·rw [decide_eq_false e]; exact lq.mpr fun z => e (q.mp z)
section
variable {prog : aG} {w : aE} {cls : aZ} {RY : ao} {A : bm} {E : aa -> ae -> Prop} {σ : Tk} {s : ae} {H : AH} {Q : aa -> ae -> Prop}
theorem sU {x : V} {v : aa} (S : aq prog w cls RY σ H s.heap) (r : VR σ s.heap x v) (k : aI 8 (du H x) = true) : ∃ as, Reads s.heap v (cK (du H x)) as := by
 cases x with
 | ref i =>
  simp only [VR] at r
  obtain ⟨a, ha, rfl⟩ := r
  replace k : aI 8 (nU i (eB (ag H i))) = true := k
  show ∃ as, Reads s.heap (.ref a) (cK (nU i (eB (ag H i)))) as
  generalize e : eB (ag H i) = o at k
  cases o with
  | none => exact aY k
  | some l =>
   refine Am e fun hl => ?_
   obtain ⟨vs, ⟨n, e⟩, _, q⟩ := S.objs i a _ ha hl
   obtain ⟨as, z⟩ := an.reads (n := 7) (bJ.mp k) q
   exact ⟨_, .list e rfl rfl z⟩
 | _ => exact VR.reads k r
theorem zY {x y : V} {b : Bool} (e : eqv x y = some b) : (∃ c d, x = .bool c /\ y = .bool d /\ b = (c == d)) \/ (aI 8 x = true /\ aI 8 y = true /\ b = decide (x = y)) := by
 have Ye : ∀ {x}, vb x y = some b -> aI 8 x = true /\ aI 8 y = true /\ b = decide (x = y) := fun e => bT e fun q e =>
  ⟨(bk.mp q).1, (bk.mp q).2, (aC e).symm⟩
 cases x with
 | bool c => cases y with
  | bool d => exact .inl ⟨c, d, rfl, rfl, (aC e).symm⟩
  | _ => exact aD e
 | _ => exact .inr (Ye e)
theorem sV {x : V} {c : Bool} (e : du H x = .bool c) : x = .bool c := by
 cases x with
 | ref i =>
  replace e : nU i (eB (ag H i)) = .bool c := e
  generalize eB (ag H i) = o at e
  cases o <;> cases e
 | _ => exact e
theorem N8 {x y : V} {u v : aa} {b : Bool} (hu : A.units + 64 < dR) (S : aq prog w cls RY σ H s.heap) (rx : VR σ s.heap x u) (ry : VR σ s.heap y v) (e : eqv (du H x) (du H y) = some b) (h : Q (.bool b) s) :
  af (am prog w) A (mR .Eq u v) Q E s := by
 rcases zY e with ⟨c, d, e1, e2, rfl⟩ | ⟨k1, k2, rfl⟩
 ·rw [sV e1] at rx
  rw [sV e2] at ry
  simp only [VR] at rx ry
  subst rx ry
  exact PyProof.Rows.eq_bool h
 ·obtain ⟨as, ra⟩ := sU S rx k1
  obtain ⟨bs, rb⟩ := sU S ry k2
  exact SeqAt.compareEq_shaped ra rb (s9 k1) (s9 k2) hu (by rw [v7 k1 k2]; exact h)
theorem FQ {x y : V} {u v : aa} {b : Bool} (hu : A.units + 64 < dR) (S : aq prog w cls RY σ H s.heap) (rx : VR σ s.heap x u) (ry : VR σ s.heap y v) (e : eqv (du H x) (du H y) = some b) (h : Q (.bool (!b)) s) :
  af (am prog w) A (mR .NotEq u v) Q E s := by
 rcases zY e with ⟨c, d, e1, e2, rfl⟩ | ⟨k1, k2, rfl⟩
 ·rw [sV e1] at rx
  rw [sV e2] at ry
  simp only [VR] at rx ry
  subst rx ry
  exact PyProof.Rows.ne_bool h
 ·obtain ⟨as, ra⟩ := sU S rx k1
  obtain ⟨bs, rb⟩ := sU S ry k2
  exact SeqAt.compareNe_shaped ra rb (s9 k1) (s9 k2) hu (by rw [v7 k1 k2]; exact h)
theorem jT {x : V} {v : aa} {l : List V} (S : aq prog w cls RY σ H s.heap) (r : VR σ s.heap x v) (e : bK H x = some l) : ∃ a vs, v = .ref a /\ s.heap.IsList a vs /\ l.length < 100000 /\ an σ s.heap l vs.toList := by
 cases x with
 | lst q =>
  obtain rfl := aC e
  obtain ⟨a, vs, e, _, k, ln, q, _⟩ := r
  exact ⟨a, vs, e, k, ln, q⟩
 | ref i =>
  obtain ⟨a, ha, e1⟩ := r
  refine Am e fun hq => ?_
  obtain ⟨vs, ⟨n, z⟩, ln, q⟩ := S.objs i a _ ha hq
  exact ⟨a, vs, e1, ⟨_, z, rfl, n, rfl⟩, ln, q⟩
 | _ => exact aD e
theorem yD {x : V} (hx : aI 8 x = true) : ∀ {l : List V}, (∀ y ∈ l, aI 8 y = true) -> (ff l).any (fun y => lv y (cK x)) = decide (x ∈ l) := by
 intro l
 induction l with
 | nil =>
  intro _
  simp [so, sv]
 | cons a l iH =>
  intro k
  have q := iH fun y hy => k y (.tail _ hy)
  have q1 := v7 (k a (.head _)) hx
  simp only [so, sv, tG, q, q1, aP]
  by_cases e : a = x
  ·subst e; simp
  ·have : ¬ x = a := fun z => e z.symm
   simp [e, this]
theorem Bb {l : List V} (k : ∀ y ∈ l, aI 8 y = true) : xc (ff l) = true := by
 exact (mn 9 (.lst l) (bJ.mpr k)).1
theorem yH {x : V} {l : List V} {b : Bool} {G : Prop} (e : gT x l = some b) (g : aI 8 x = true -> (∀ y ∈ l, aI 8 y = true) -> b = decide (x ∈ l) -> G) : G :=
 bT e fun q e => g (bk.mp q).1 (bJ.mp (bk.mp q).2) (aC e).symm
theorem AA {x : V} {d : Nat} (hu : A.units + 64 < dR) (k : aI 8 x = true) : A.units + 1 + min d (cK x).depth < dR :=
 cL (m := A.units + 1 + 63) (jq (cY (PF _ _) (cY (mn 8 x k).2 (by decide))) _) hu
theorem EO {x y : V} {u v : aa} {l : List V} {b : Bool} (hu : A.units + 64 < dR) (S : aq prog w cls RY σ H s.heap) (rx : VR σ s.heap x u) (ry : VR σ s.heap y v) (hl : bK H y = some l) (e : gT x l = some b) (h : Q (.bool b) s) :
  af (am prog w) A (mR .In u v) Q E s := by
 obtain ⟨a, vs, rfl, ⟨o, ho, hc, n, hd⟩, _, q⟩ := jT S ry hl
 refine yH e fun k1 k2 e => ?_
 obtain ⟨as, ra⟩ := rx.reads k1
 obtain ⟨bs, rb⟩ := q.reads k2
 exact PySem.SeqAt.in_list_reads (.list ho hc hd rb) ra (Bb k2) (mn 8 x k1).1 (AA hu k1) (by rw [yD k1 k2, <-e]; exact h)
theorem Ob {x y : V} {u v : aa} {l : List V} {b : Bool} (hu : A.units + 64 < dR) (S : aq prog w cls RY σ H s.heap) (rx : VR σ s.heap x u) (ry : VR σ s.heap y v) (hl : bK H y = some l) (e : gT x l = some b) (h : Q (.bool (!b)) s) :
  af (am prog w) A (mR .NotIn u v) Q E s := by
 obtain ⟨a, vs, rfl, ⟨o, ho, hc, n, hd⟩, _, q⟩ := jT S ry hl
 refine yH e fun k1 k2 e => ?_
 obtain ⟨as, ra⟩ := rx.reads k1
 obtain ⟨bs, rb⟩ := q.reads k2
 exact PySem.SeqAt.notIn_list_reads (.list ho hc hd rb) ra (Bb k2) (mn 8 x k1).1 (AA hu k1) (by rw [yD k1 k2, <-e]; exact h)
end
end
section
section
variable {prog : aG} {w : aE} {cls : aZ} {RY : ao} {A : bm} {E : aa -> ae -> Prop} {σ : Tk} {s : ae} {H H' : AH}
theorem VR.isNone {h : ao} {x : V} {v : aa} (r : VR σ h x v) : (v == Value.none) = x.isNone := by
 cases x with
 | none => rw [show v = .none from r]; rfl
 | bool => rw [show v = .bool _ from r]; rfl
 | int => obtain ⟨_, e⟩ := r; rw [e]; rfl
 | str => obtain ⟨_, e⟩ := r; rw [e]; rfl
 | tup => obtain ⟨_, _, e, _⟩ := r; rw [e]; rfl
 | lst => obtain ⟨_, _, e, _⟩ := r; rw [e]; rfl
 | ref => obtain ⟨_, _, e⟩ := r; rw [e]; rfl
theorem VR.int_k {h : ao} {x : V} {i : Int} {v : aa} {G : Prop} (e : x = .int i) (r : VR σ h x v) (g : ∀ t, v = .int i t -> G) : G := by
 rw [e] at r; obtain ⟨t, e⟩ := r; exact g t e
section
variable {o : CmpOp} {x y : V} {u v : aa} {b : Bool} {Q : aa -> ae -> Prop}
theorem rq {f : Int -> Int -> Bool} (rx : VR σ s.heap x u) (ry : VR σ s.heap y v) (e : nY f x y = some b) (h : Q (.bool b) s)
  (k : ∀ i t j t', Q (.bool (f i j)) s -> af (am prog w) A (mR o (.int i t) (.int j t')) Q E s) : af (am prog w) A (mR o u v) Q E s :=
 fO e fun i e1 e => fO e fun j e2 e => rx.int_k e1 fun t e3 => ry.int_k e2 fun t' e4 => by
  rw [e3, e4]; exact k i t j t' (by rw [aC e]; exact h)
theorem J4 {op : Cm} (ho : rV o = some op) (hu : A.units + 64 < dR) (S : aq prog w cls RY σ H s.heap) (rx : VR σ s.heap x u) (ry : VR σ s.heap y v)
  (e : bF H op x y = some b) (h : Q (.bool b) s) : af (am prog w) A (mR o u v) Q E s := by
 have e' : ∀ q, some q = some op -> bF H q x y = some b := fun q h => by rw [aC h]; exact e
 cases o with
 | Eq => exact N8 hu S rx ry (e' _ ho) h
 | NotEq => exact bd (e' _ ho) fun c hc e => FQ hu S rx ry hc (by rw [e]; exact h)
 | Lt => exact rq rx ry (e' _ ho) h fun u' u' u' u' h => P.lt_int h
 | LtE => exact rq rx ry (e' _ ho) h fun u' u' u' u' h => P.le_int h
 | Gt => exact rq rx ry (e' _ ho) h fun u' u' u' u' h => P.gt_int h
 | GtE => exact rq rx ry (e' _ ho) h fun u' u' u' u' h => P.ge_int h
 | Is => exact Bp (e' _ ho) fun e1 e => by rw [show v = .none from (e1 ▸ ry : VR σ s.heap .none v)]; exact is_none (by rw [rx.isNone, aC e]; exact h)
 | IsNot => exact Bp (e' _ ho) fun e1 e => by rw [show v = .none from (e1 ▸ ry : VR σ s.heap .none v)]; exact isNot_none (by rw [rx.isNone, aC e]; exact h)
 | In => exact bv (e' _ ho) fun l hl he => EO hu S rx ry hl he h
 | NotIn => exact bd (e' _ ho) fun c hc e => bv hc fun l hl he => Ob hu S rx ry hl he (by rw [e]; exact h)
end
theorem IT {l b : ak} {vs ws : Array aa} {Q : aa -> ae -> Prop} (hl : s.heap.IsList l vs) (hb : s.heap.IsList b ws) (Tn : vs.size + ws.size <= fv)
  (h : Q (.ref s.heap.objs.size) { s with heap := s.heap.push { cls := .type "list", data := .seq (vs ++ ws) } }) : af (am prog w) A (qO .Add (.ref l) (.ref b)) Q E s := by
 obtain ⟨⟨c1, d1, data1, Vx⟩, ho, hc, n, hd⟩ := id hl
 obtain ⟨⟨c2, d2, data2, U6⟩, TX, UO, n2, U1⟩ := id hb
 simp only at hc hd UO U1
 subst hc hd UO U1
 exact xd ⟨_, ho, rfl⟩ ⟨_, TX, rfl⟩ noFill_list_add seq_list_add PySem.F.slot_list_add PySem.F.entry_list_add (PySem.F.args_list_add_2 _ _) (list_addW l b vs ws n n2 d1 d2 Vx U6 Tn) ⟨ho, TX, h⟩
theorem ID {l b : ak} {vs ws : Array aa} {Q : aa -> ae -> Prop} (hl : oF s.heap l vs) (hb : oF s.heap b ws) (Tn : vs.size + ws.size <= fv)
  (h0 : vs.isEmpty = true -> Q (.ref b) s) (h1 : ws.isEmpty = true -> Q (.ref l) s)
  (h : Q (.ref s.heap.objs.size) { s with heap := s.heap.push { cls := .type "tuple", data := .seq (vs ++ ws) } }) : af (am prog w) A (qO .Add (.ref l) (.ref b)) Q E s := by
 obtain ⟨⟨c1, d1, data1, Vx⟩, ho, hc, n, hd⟩ := id hl
 obtain ⟨⟨c2, d2, data2, U6⟩, TX, UO, n2, U1⟩ := id hb
 simp only at hc hd UO U1
 subst hc hd UO U1
 by_cases e1 : vs.isEmpty = true
 ·exact xd ⟨_, ho, rfl⟩ ⟨_, TX, rfl⟩ CH CI CJ CK (CL _ _) (tuple_addW0 l b vs ws n n2 d1 d2 Vx U6 e1) ⟨ho, TX, h0 e1⟩
 ·by_cases e2 : ws.isEmpty = true
  ·exact xd ⟨_, ho, rfl⟩ ⟨_, TX, rfl⟩ CH CI CJ CK (CL _ _) (tuple_addW1 l b vs ws n n2 d1 d2 Vx U6 e1 e2) ⟨ho, TX, h1 e2⟩
  ·exact xd ⟨_, ho, rfl⟩ ⟨_, TX, rfl⟩ CH CI CJ CK (CL _ _) (tuple_addW2 l b vs ws n n2 d1 d2 Vx U6 e1 e2 Tn) ⟨ho, TX, h⟩
theorem Ch {l : List V} {vs : Array aa} {t : Bool} {Q : aa -> ae -> Prop} (S : aq prog w cls RY σ H s.heap) (r : an σ s.heap l vs.toList) (hl : l.length < 100000)
  (h : ∀ RZ s' v, Nx prog w cls RY σ s RZ (bh H t l).2 s' -> VR RZ s'.heap (bh H t l).1 v -> Q v s') :
  Q (.ref s.heap.objs.size) { s with heap := s.heap.push { cls := .type "list", data := .seq vs } } := by
 cases t with
 | false =>
  have N : Nx prog w cls RY σ s σ H { s with heap := s.heap.push { cls := .type "list", data := .seq vs } } := Nx.of S (fun b o e => br _ e) rfl rfl
  refine h σ _ _ N ?_
  simp only [VR, bh]
  exact ⟨_, vs, rfl, S.new (bq _), ⟨_, cz _ rfl, rfl, 0, rfl⟩, hl, r.grow N.grow, .inr ⟨0, cz _ rfl⟩⟩
 | true =>
  have hn : s.heap.get? s.heap.objs.size = none := g0 (bq _)
  have G : bM σ s.heap (σ.add [s.heap.objs.size]) (s.heap.push { cls := .type "list", data := .seq vs }) := ⟨⟨[s.heap.objs.size], rfl, fun b hb => by rw [aN.mp hb]; exact hn⟩, fun b o u' e => br _ e⟩
  have N : Nx prog w cls RY σ s (σ.add [s.heap.objs.size]) (H ++ [.list l]) { s with heap := s.heap.push { cls := .type "list", data := .seq vs } } :=
   Nx.track S hn (fun b o e => br _ e) ⟨vs, ⟨0, cz _ rfl⟩, hl, r.grow G⟩ rfl rfl
  refine h _ _ _ N ?_
  simp only [VR, bh]
  exact ⟨_, by rw [<-S.len]; simp [Tk.add], rfl⟩
theorem yl {l : List V} {vs : Array aa} {Q : aa -> ae -> Prop} (S : aq prog w cls RY σ H s.heap) (r : an σ s.heap l vs.toList) (hl : l.length < 100000)
  (h : ∀ RZ s' v, Nx prog w cls RY σ s RZ H s' -> VR RZ s'.heap (.tup l) v -> Q v s') :
  Q (.ref s.heap.objs.size) { s with heap := s.heap.push { cls := .type "tuple", data := .seq vs } } := by
 have N : Nx prog w cls RY σ s σ H { s with heap := s.heap.push { cls := .type "tuple", data := .seq vs } } := Nx.of S (fun b o e => br _ e) rfl rfl
 refine h σ _ _ N ?_
 simp only [VR]
 exact ⟨_, vs, rfl, S.new (bq _), ⟨_, cz _ rfl, rfl, 0, rfl⟩, hl, r.grow N.grow⟩
theorem an.size {h : ao} {l : List V} {vs : Array aa} (r : an σ h l vs.toList) : vs.size = l.length := by rw [r.length, mS]
theorem yx {a : Int} (h : a.natAbs < 2 ^ 40) : -2 ^ 64 < a /\ a < 2 ^ 64 := ⟨vV (K := 2 ^ 64) h rfl, qz (K := 2 ^ 64) h rfl⟩
theorem Iv {o : mO} {op : Op} {i : Int} {y z : V} {v : aa} {t : Tok} {Q : aa -> ae -> Prop} (ho : lh o = some op) (hA : A.handled = none) (S : aq prog w cls RY σ H s.heap) (ry : VR σ s.heap y v)
  (e : oI y (pW H op i) = some (z, H')) (h : ∀ RZ s' v, Nx prog w cls RY σ s RZ H' s' -> VR RZ s'.heap z v -> Q v s') : af (am prog w) A (qO o (.int i t) v) Q E s :=
 fO e fun j e2 e => ry.int_k e2 fun t' e4 => by
  rw [e4]
  have e' : ∀ q, some q = some op -> pW H q i j = some (z, H') := fun q h => by rw [aC h]; exact e
  have Sk : ∀ {k}, some (V.int k, H) = some (z, H') -> Q (.int k s.toks) { s with toks := s.toks + 1 } := fun {k} e => fQ e fun e1 e2 => h σ _ _ (e2 ▸ Nx.tok S _) (e1 ▸ ⟨_, rfl⟩)
  cases o with
  | Add => exact P.add_int (Sk (e' _ ho))
  | Sub => exact P.sub_int (Sk (e' _ ho))
  | Mult => exact bT (e' _ ho) fun q e => P.mul_int (Sk e) (IntMulOk.of_left (intBits_le_64 (yx (of_decide_eq_true (bk.mp q).1)).1 (yx (of_decide_eq_true (bk.mp q).1)).2))
  | Mod => exact bT (e' _ ho) fun q e => mod_int_or hA (fun z => absurd (z ▸ q) (mU 0)) fun u' => Sk e
  | FloorDiv => exact bT (e' _ ho) fun q e => floordiv_int_or hA (fun z => absurd (of_decide_eq_true (bk.mp q).1) (by rw [z]; exact mU 0)) (fun u' => Sk e) fun u' => .inl (PyProof.noPylong_small (by have := of_decide_eq_true (bk.mp q).1; have := of_decide_eq_true (bk.mp q).2; omega))
  | _ => exact aD ho
theorem A6 {o : mO} {op : Op} (ho : lh o = some op) (e : op = .add) : o = .Add := by
 subst e
 cases o <;> first | rfl | exact aD ho | exact nomatch ho
theorem Kn {o : mO} {op : Op} {x y z : V} {u v : aa} {Q : aa -> ae -> Prop} (ho : lh o = some op) (S : aq prog w cls RY σ H s.heap) (rx : VR σ s.heap x u) (ry : VR σ s.heap y v)
  (e : lM H op x y = some (z, H')) (h : ∀ RZ s' v, Nx prog w cls RY σ s RZ H' s' -> VR RZ s'.heap z v -> Q v s') : af (am prog w) A (qO o u v) Q E s := by
 cases op with
 | add =>
  refine bv e fun a ha e => bv e fun b hb e => bT e fun hz e => fQ (show some ((bh H true (a ++ b)).1, (bh H true (a ++ b)).2) = some (z, H') from e) fun ez eH => ?_
  obtain ⟨l1, vs, e1, q1, _, r1⟩ := jT S rx ha
  obtain ⟨l2, ws, e2, q2, _, r2⟩ := jT S ry hb
  have UW : vs.size + ws.size < 4096 := by rw [r1.size, r2.size]; exact hz
  rw [A6 ho rfl, e1, e2]
  refine IT q1 q2 (j5 (cH UW (by rw [cQ]; decide))) (Ch (t := true) S (by rw [CM]; exact r1.append r2) (by rw [dg]; exact cH hz (by decide)) fun RZ s' v N r => ?_)
  exact h RZ s' v (eH ▸ N) (ez ▸ r)
 | _ => exact aD e
theorem KZ {o : mO} {op : Op} {a b : List V} {z : V} {u v : aa} {Q : aa -> ae -> Prop} (ho : lh o = some op) (S : aq prog w cls RY σ H s.heap) (rx : VR σ s.heap (.tup a) u) (ry : VR σ s.heap (.tup b) v)
  (e : vw H op a b = some (z, H')) (h : ∀ RZ s' v, Nx prog w cls RY σ s RZ H' s' -> VR RZ s'.heap z v -> Q v s') : af (am prog w) A (qO o u v) Q E s := by
 cases op with
 | add =>
  refine bT e fun hz e => fQ e fun e1 e2 => ?_
  subst e1 e2
  have Yv := rx
  have Yu := ry
  obtain ⟨l1, vs, e1, n1, q1, _, r1⟩ := rx
  obtain ⟨l2, ws, e2, n2, q2, _, r2⟩ := ry
  have UW : vs.size + ws.size < 4096 := by rw [r1.size, r2.size]; exact hz
  rw [A6 ho rfl, e1, e2]
  rw [e1] at Yv
  rw [e2] at Yu
  refine ID q1 q2 (j5 (cH UW (by rw [cQ]; decide))) (fun z => h σ s _ (Nx.refl S) ?_) (fun z => h σ s _ (Nx.refl S) ?_) (yl S (by rw [CM]; exact r1.append r2) (by rw [dg]; exact cH hz (by decide)) h)
  ·rw [ik (l := a) (by rw [<-r1.size]; exact eq_of_beq z)]; exact Yu
  ·rw [ik (l := b) (by rw [<-r2.size]; exact eq_of_beq z), im]; exact Yv
 | _ => exact aD e
theorem Nv {op : Op} {o : mO} {x y z : V} {u v : aa} {Q : aa -> ae -> Prop} (ho : lh o = some op) (hA : A.handled = none) (S : aq prog w cls RY σ H s.heap) (rx : VR σ s.heap x u) (ry : VR σ s.heap y v)
  (e : hO H op x y = some (z, H')) (h : ∀ RZ s' v, Nx prog w cls RY σ s RZ H' s' -> VR RZ s'.heap z v -> Q v s') : af (am prog w) A (qO o u v) Q E s := by
 cases x with
 | int i => exact rx.int_k rfl fun t e3 => by rw [e3]; exact Iv ho hA S ry e h
 | tup a => exact rA e fun b e2 e => KZ ho S rx (e2 ▸ ry) e h
 | lst | ref => exact Kn ho S rx ry e h
 | _ => exact aD e
end
end
section
structure jS (cls : aZ) (RY : ao) (c : Nat) : Prop where
 isCls : ClsAt RY (cls.at_ c) (cls.ns c) (cls.nm c)
 ga : cls.nm c "__getattribute__" = none
 gh : cls.nm c "__getattr__" = none
 sa : cls.nm c "__setattr__" = none
 quiet : ∀ n ∈ dE, cls.nm c n = none
theorem Av : ∀ n ∈ dE, typeLookup (.type "object") n = pure none := by
 intro n hn
 rw [xe, xf]
 simp only [dE, aP, gb, or_false] at hn
 rcases hn with rfl | rfl | rfl | rfl | rfl | rfl | rfl | rfl | rfl | rfl | rfl | rfl <;> kernel_rfl
section
variable {prog : aG} {w : aE} {cls : aZ} {RY : ao} {A : bm} {E : aa -> ae -> Prop} {σ : Tk} {s : ae} {H H' : AH}
theorem Cj {l : List V} {k : Int} {x : V} {G : Prop} (e : fE l k = some x) (g : 0 <= k -> l[k.toNat]? = some x -> G) (g' : k < 0 -> 0 <= k + l.length -> l[(k + l.length).toNat]? = some x -> G) : G :=
 ew e g fun n e => bT e (g' (Int.not_le.mp n))
theorem rQ {l : List V} {i : Nat} {x : V} (e : l[i]? = some x) : i < l.length := (bG.mp e).1
theorem zB {a : Int} {v : aa} {q : List (Int × aa)} {k : Int} : mW ((a, v) :: q) k = if a = k then some v else mW q k := by
 unfold mW
 by_cases z : a = k
 ·rw [if_pos z, List.find?_cons_of_pos (by simpa using z)]; rfl
 ·rw [if_neg z, P4 (by simpa using z)]
theorem cG.at {h : ao} : ∀ {l : List (Int × V)} {kvs : List (Int × aa)}, cG σ h l kvs -> ∀ {k : Int} {x : V}, dictAt l k = some x -> ∃ v, mW kvs k = some v /\ VR σ h x v := by
 intro l
 induction l with
 | nil =>
  intro _ _ k x e
  exact aD e
 | cons Se r iH =>
  obtain ⟨a, b⟩ := Se
  intro kvs q k x e
  obtain ⟨v, q', e1, r1, r2⟩ := q
  rw [e1, zB]
  replace e : (if a = k then some b else dictAt r k) = some x := e
  by_cases z : a = k
  ·rw [if_pos z] at e ⊢; exact ⟨v, rfl, aC e ▸ r1⟩
  ·rw [if_neg z] at e ⊢; exact iH r2 e
section
variable {value slice : Expr} {a : ak} {vs : Array aa} {l : List V} {k : Int} {t : Tok} {z : V} {Q : aa -> ae -> Prop}
theorem A9 (hs : ∀ o i, CN slice false o i = operate [o, i] (getItem o i)) (hl : s.heap.IsList a vs) (r : an σ s.heap l vs.toList) (e : fE l k = some z) (h : ∀ v, VR σ s.heap z v -> Q v s) (XS : l.length < 100000) :
  af (am prog w) A (CO value slice (.ref a) (.int k t)) Q E s := by
 have zz := r.size
 refine Cj e (fun h0 hx => ?_) fun h0 h1 hx => ?_
 ·obtain ⟨v, hv, rv⟩ := r.get hx
  exact oG hl.typeIs CQ.lookup (wpAny_getItem_list hl h0 (c2 XS (rQ hx)) (by rw [<-fy]; exact hv) (h v rv)) (hs _ _)
 ·obtain ⟨v, hv, rv⟩ := r.get hx
  rw [<-zz] at hv h1
  exact oG hl.typeIs CQ.lookup (wpAny_getItem_list_neg hl h0 (by trivial) (by trivial) (by rw [<-fy]; exact hv) (h v rv)) (hs _ _)
theorem Kw {n : Nat} (h0 : 0 <= k) (h : k.toNat < n) : xg k n = some k.toNat := by
 unfold xg
 rw [if_neg (j9.mpr h0), if_pos]
 exact bk.mpr ⟨decide_eq_true h0, decide_eq_true ((Int.toNat_lt h0).mp h)⟩
theorem M1 {n : Nat} (h0 : k < 0) (h1 : 0 <= k + n) : xg k n = some (k + n).toNat := by
 unfold xg
 rw [if_pos h0, if_pos]
 exact bk.mpr ⟨decide_eq_true h1, decide_eq_true (by trivial)⟩
theorem Hs (hs : ∀ o i, CN slice false o i = operate [o, i] (getItem o i)) (hl : oF s.heap a vs) (r : an σ s.heap l vs.toList) (e : fE l k = some z) (h : ∀ v, VR σ s.heap z v -> Q v s) (XS : l.length < 100000) :
  af (am prog w) A (CO value slice (.ref a) (.int k t)) Q E s := by
 have zz := r.size
 refine Cj e (fun h0 hx => ?_) fun h0 h1 hx => ?_
 ·obtain ⟨v, hv, rv⟩ := r.get hx
  exact oG hl.typeIs P5.lookup (getItem_tuple (j := k.toNat) hl (c5 h0) (c2 XS (rQ hx)) (by rw [zz]; exact Kw h0 (rQ hx)) (by rw [<-fy]; exact hv) (h v rv)) (hs _ _)
 ·obtain ⟨v, hv, rv⟩ := r.get hx
  have := rQ hx
  exact oG hl.typeIs P5.lookup (getItem_tuple (j := (k + l.length).toNat) hl (by trivial) (by trivial) (by rw [zz]; exact M1 h0 h1) (by rw [<-fy]; exact hv) (h v rv)) (hs _ _)
end
theorem DO {x y z : V} {u v : aa} {value slice : Expr} {Q : aa -> ae -> Prop} (S : aq prog w cls RY σ H s.heap) (rx : VR σ s.heap x u) (ry : VR σ s.heap y v) (e : cf H x y = some z)
  (hs : ∀ o i, CN slice false o i = operate [o, i] (getItem o i)) (h : ∀ RZ s' v, Nx prog w cls RY σ s RZ H s' -> VR RZ s'.heap z v -> Q v s') : af (am prog w) A (CO value slice u v) Q E s := by
 refine fO e fun k e1 e => ry.int_k e1 fun t e2 => ?_
 have Sk := fun v => h σ s v (Nx.refl S)
 rw [e2]
 cases x with
 | ref i =>
  obtain ⟨a, ha, e3⟩ := rx
  rw [e3]
  refine wx e (fun l hl e => ?_) fun l hl e => ?_
  ·obtain ⟨vs, ⟨n, q⟩, ln, r⟩ := S.objs i a _ ha hl
   exact A9 hs ⟨_, q, rfl, n, rfl⟩ r e Sk ln
  ·obtain ⟨kvs, hd, _, ln, r⟩ := S.objs i a _ ha hl
   obtain ⟨v, hv, rv⟩ := r.at e
   exact oG hd.typeIs P6.lookup (wpAny_getItem_of (xh _ _ _ _) hd.mapOf hv (h σ _ v (Nx.tok S _) rv)) (hs _ _)
 | tup l =>
  obtain ⟨a, vs, e3, _, hl, ln, r⟩ := rx
  rw [e3]; exact Hs hs hl r e Sk ln
 | lst l =>
  obtain ⟨a, vs, e3, _, hl, ln, r, _⟩ := rx
  rw [e3]; exact A9 hs hl r e Sk ln
 | _ => exact aD e
theorem ED {α : Type} (l : List α) (a h : Nat) : (l.drop (min a l.length)).take (min h l.length - min a l.length) = (l.take h).drop a := by
 rw [List.drop_take]
 rcases w5 a l.length with q | q
 ·rw [oC q]
  rcases w5 h l.length with p | p
  ·rw [oC p]
  ·rw [w6 p, tH (by rw [mX]; exact bq _), tH (by rw [mX]; exact PJ p _)]
 ·rw [w6 q, CR (bq _), CR q, P7, P7]
theorem O7 (items : Array aa) {lo hi : Option Nat} : (slicePick items (lo.map Int.ofNat) (hi.map Int.ofNat) none).toList = (match hi with | some h => items.toList.take h | none => items.toList).drop (lo.getD 0) := by
 have e : sliceBounds (lo.map Int.ofNat) (hi.map Int.ofNat) none items.size = (((min (lo.getD 0) items.size : Nat) : Int), ((min (hi.getD items.size) items.size : Nat) : Int), 1) := by
  cases lo <;> cases hi <;> simp only [sliceBounds, P8, dN, P9, xi, show (1 : Int) > 0 by decide, if_true] <;> (refine tD ?_ (tD ?_ rfl)) <;> simp only [Int.ofNat_eq_natCast] <;> (repeat' split) <;> trivial
 unfold slicePick
 rw [e]
 simp only [sliceRange_one, pick_run]
 rw [<-mS, ED]
 cases hi with
 | none => rw [P9, tH (bq _)]
 | some h => rfl
theorem Ot {h : ao} {x : V} {v : aa} (r : VR σ h x v) : handedOut v = pure v := by
 cases x with
 | none => rw [show v = .none from r]; rfl
 | bool => rw [show v = .bool _ from r]; rfl
 | int => obtain ⟨_, e⟩ := r; rw [e]; rfl
 | str => obtain ⟨_, e⟩ := r; rw [e]; rfl
 | tup => obtain ⟨_, _, e, _⟩ := r; rw [e]; rfl
 | lst => obtain ⟨_, _, e, _⟩ := r; rw [e]; rfl
 | ref => obtain ⟨_, _, e⟩ := r; rw [e]; rfl
theorem aq.inst (B : ∀ c, c < 2 -> jS cls RY c) (S : aq prog w cls RY σ H s.heap) {i c j : Nat} {a : ak} {m : List (Option V)} (ha : σ.tr[i]? = some a) (hi : ag H i = some (.inst c j)) (hj : ag H j = some (.attrs m)) :
  ∃ d mA, c < 2 /\ σ.tr[j]? = some d /\ d ≠ a /\ s.heap.InstFk a (cls.at_ c) mA /\ iF σ s.heap m mA /\ ClsAt s.heap (cls.at_ c) (cls.ns c) (cls.nm c) /\ cls.nm c "__getattribute__" = none /\ cls.nm c "__getattr__" = none /\ cls.nm c "__setattr__" = none /\ (∀ n ∈ dE, cls.nm c n = none) ∧
   s.heap.Ns1 d mA /\ s.heap.ExactDictFk d /\ ∃ o, s.heap.get? a = some o /\ o.dict = some d := by
 obtain ⟨hc, d, o, hd, ho, h1, h2, h3, h4⟩ := S.objs i a _ ha hi
 obtain ⟨mA, n1, n2, n3⟩ := S.objs j d _ hd hj
 obtain ⟨q1, q2, q3, q4, q5⟩ := B c hc
 exact ⟨d, mA, hc, hd, h4, ⟨o, ho, h1, h2, .inr ⟨d, h3, h4, n1, n2⟩⟩, n3, q1.keeps S.keep, q2, q3, q4, q5, n1, n2, o, ho, h3⟩
theorem OX (B : ∀ c, c < 2 -> jS cls RY c) (S : aq prog w cls RY σ H s.heap) {i c j k : Nat} {a : ak} {m : List (Option V)} {n : ac} {x : V} {expr : Bool} {Q : aa -> ae -> Prop} (ha : σ.tr[i]? = some a) (hi : ag H i = some (.inst c j)) (hj : ag H j = some (.attrs m))
  (hn : dE[k]? = some n) (hx : m[k]? = some (some x)) (h : ∀ RZ s' v, Nx prog w cls RY σ s RZ H s' -> VR RZ s'.heap x v -> Q v s') : af (am prog w) A (getAttr (.ref a) n expr) Q E s := by
 obtain ⟨d, mA, hc, hd, SM, I, R, C, g1, g2, g3, g4, _, _, _⟩ := S.inst B ha hi hj
 obtain ⟨v, hv, rv⟩ := R.some k n x hn hx
 obtain ⟨nm, q, bs, sn, sub, W7, dd, k0, k1, k2, k3, k5, hC⟩ := C.obj
 have hm := aT hn
 obtain ⟨hp, g, dr, t, os⟩ := s
 exact load_attrFk hC C.ns g1 (g4 n hm) (Av n hm) I hv (Ot rv) (h σ _ v (Nx.tok S _) rv)
end
end
section
section
variable {prog : aG} {w : aE} {cls : aZ} {RY : ao} {A : bm} {σ : Tk} {s : ae} {H H' : AH}
variable {n : Nat} {ev : E -> Loc -> AH -> Option (V × AH)} {k : Nat} {c : TC} {loc : Loc} {env : bH}
theorem FC (B : ∀ c, c < 2 -> jS cls RY c) (ih : SE prog w cls RY ev n) {e : Expr} {e' : E} {t : Bool} {i c' j o : Nat} {x : V} {m : List (Option V)} {a : ac} {p : aJ} (UI : kE e = true)
  (Sb : ay k c t e = some e') (R9 : ev e' loc H = some (.ref i, H')) (ha : dE[o]? = some a) (hi : ag H' i = some (.inst c' j)) (hj : ag H' j = some (.attrs m)) (hx : m[o]? = some (some x))
  (rm : aR A n) (R : aA env c loc σ s.heap) (S : aq prog w cls RY σ H s.heap) : ct prog w cls RY A (eval (.Attribute e a p) env) σ s x H' := fun Q E h => by
 refine Attribute_any_ (ih k c t e e' loc H _ H' Sb R9 A env σ s rm R S _ _ fun R6 s1 v N1 r1 => ?_) ?_
 ·simp only [VR] at r1
  obtain ⟨ad, Um, rfl⟩ := r1
  exact OX B N1.sim Um hi hj ha hx fun Sf s2 v N2 r2 => h Sf s2 v (N1.trans N2) r2
 ·cases e <;> first | with_unfolding_all rfl | cases UI
theorem MB (ih : SE prog w cls RY ev n) {a b : Expr} {a' b' : E} {x y z : V} {H1 H2 : AH} {t t' : Bool} {p : aJ} (hb : ∀ l u st q, b ≠ .Slice l u st q)
  (h1 : ay k c t a = some a') (h2 : ay k c t' b = some b') (e1 : ev a' loc H = some (x, H1)) (e2 : ev b' loc H1 = some (y, H2)) (e3 : cf H2 x y = some z)
  (rm : aR A n) (R : aA env c loc σ s.heap) (S : aq prog w cls RY σ H s.heap) : ct prog w cls RY A (eval (.Subscript a b p) env) σ s z H2 := fun Q E h => by
 refine CS (ih k c t a a' loc H x H1 h1 e1 A env σ s rm R S _ _ fun R6 s1 u N1 r1 => ?_)
 refine ih k c t' b b' loc H1 y H2 h2 e2 A env R6 s1 rm (R.grow N1.grow) N1.sim _ _ fun Sf s2 v N2 r2 => ?_
 refine DO N2.sim (r1.grow N2.grow) r2 e3 (fun o i => ?_) fun Su s3 v N3 r3 => h Su s3 v ((N1.trans N2).trans N3) r3
 cases b <;> first | rfl | exact absurd rfl (hb _ _ _ _)
theorem yC (ih : SE prog w cls RY ev n) {o : Option Expr} {o' : Option E} {x : Option V} {b : Option Nat} (Sb : mD k c o = some o') (R9 : kP ev o' loc H = some (x, H')) (hb : fN x = some b)
  (rm : aR A n) (R : aA env c loc σ s.heap) (S : aq prog w cls RY σ H s.heap) {Q : aa -> ae -> Prop} {E : aa -> ae -> Prop}
  (h : ∀ RZ s' v, Nx prog w cls RY σ s RZ H' s' -> IsPart v (b.map Int.ofNat) -> Q v s') : af (am prog w) A (evalPart o env) Q E s := by
 cases k with
 | zero => exact aD Sb
 | succ k =>
  cases o with
  | none =>
   rw [<-show none = o' from aC Sb] at R9
   refine Pa R9 fun e1 e2 => ?_
   rw [e1] at hb
   rw [evalPart_none]
   exact av (h σ s _ (e2 ▸ Nx.refl S) (aC hb ▸ .none))
  | some e =>
   refine bd Sb fun e' Sb e1 => ?_
   rw [<-e1] at R9
   refine I3 R9 fun v hv e2 => ?_
   rw [evalPart_some]
   refine ih k c false e e' loc H v H' Sb hv A env σ s rm R S _ _ fun R6 s1 u N1 r1 => h R6 s1 u N1 ?_
   rw [e2] at hb
   cases v with
   | int i =>
    refine bT hb fun q hb => ?_
    obtain ⟨t, e3⟩ := r1
    rw [e3, <-aC hb, dN, show Int.ofNat i.toNat = i from Cx q]
    exact .int _ _
   | _ => exact aD hb
theorem FN (ih : SE prog w cls RY ev n) {a : Expr} {a' : E} {lo hi : Option Expr} {V0 T0 : Option E} {x : V} {xs : List V} {l u : Option V} {bl bu : Option Nat} {H1 H2 H3 : AH} {t t' : Bool} {p q : aJ}
  (h1 : ay k c t' a = some a') (h2 : mD k c lo = some V0) (h3 : mD k c hi = some T0) (e1 : ev a' loc H = some (x, H1)) (e2 : kP ev V0 loc H1 = some (l, H2)) (e3 : kP ev T0 loc H2 = some (u, H3))
  (hx : bK H3 x = some xs) (hl : fN l = some bl) (hu : fN u = some bu)
  (rm : aR A n) (R : aA env c loc σ s.heap) (S : aq prog w cls RY σ H s.heap) : ct prog w cls RY A (eval (.Subscript a (.Slice lo hi none q) p) env) σ s (bh H3 t (d6 xs bl bu)).1 (bh H3 t (d6 xs bl bu)).2 := fun Q E h => by
 refine CS (ih k c t' a a' loc H x H1 h1 e1 A env σ s rm R S _ _ fun R6 s1 vx N1 r1 => ?_)
 refine wpAny_Slice (yC ih h2 e2 hl rm (R.grow N1.grow) N1.sim fun Sf s2 vl N2 pl => ?_)
 refine yC ih h3 e3 hu rm (R.grow (N1.trans N2).grow) N2.sim fun Su s3 vu N3 pu => ?_
 rw [evalPart_none]
 refine av ?_
 have N := (N1.trans N2).trans N3
 have K : Nx prog w cls RY Su s3 Su H3 { s3 with heap := s3.heap.push { cls := .type "slice", data := .fields #[vl, vu, .none] } } := Nx.of N.sim (fun b o e => br _ e) rfl rfl
 obtain ⟨ad, vs, rfl, q1, ln, rr⟩ := jT K.sim (r1.grow ((N2.trans N3).trans K).grow) hx
 refine oG q1.typeIs CQ.lookup (wpAny_getItem_list_slice q1 (RR ..) pl pu .none (by simp) ?_ (by have := rr.size; rw [cQ]; trivial)) (ops := [.ref _, .ref ad]) rfl
 refine Ch (t := t) (l := d6 xs bl bu) K.sim ?_ ?_ fun RZ s' v N4 r4 => h RZ s' v ((N.trans K).trans N4) r4
 ·rw [O7]
  unfold d6
  cases bu with
  | none => exact rr.drop _
  | some z => exact (rr.take _).drop _
 ·unfold d6
  cases bu <;> simp only [mX, qP] <;> trivial
theorem Jg (ih : SE prog w cls RY ev n) {a b : Expr} {a' b' : E} {x y z : V} {H1 H2 : AH} {t t' : Bool} {op : mO} {VT : Op} {p : aJ} (ho : lh op = some VT)
  (h1 : ay k c t a = some a') (h2 : ay k c t' b = some b') (e1 : ev a' loc H = some (x, H1)) (e2 : ev b' loc H1 = some (y, H2)) (e3 : hO H2 VT x y = some (z, H'))
  (rm : aR A n) (R : aA env c loc σ s.heap) (S : aq prog w cls RY σ H s.heap) : ct prog w cls RY A (eval (.BinOp a op b p) env) σ s z H' := fun Q E h => by
 refine wpAny_BinOp (ih k c t a a' loc H x H1 h1 e1 A env σ s rm R S _ _ fun R6 s1 u N1 r1 => ?_)
 refine ih k c t' b b' loc H1 y H2 h2 e2 A env R6 s1 rm (R.grow N1.grow) N1.sim _ _ fun Sf s2 v N2 r2 => ?_
 exact Nv ho rm.handled N2.sim (r1.grow N2.grow) r2 e3 fun Su s3 v N3 r3 => h Su s3 v ((N1.trans N2).trans N3) r3
theorem ME (ih : SE prog w cls RY ev n) {a : Expr} {a' : E} {i : Int} {t : Bool} {p : aJ} (h1 : ay k c t a = some a') (e1 : ev a' loc H = some (.int i, H'))
  (rm : aR A n) (R : aA env c loc σ s.heap) (S : aq prog w cls RY σ H s.heap) : ct prog w cls RY A (eval (.UnaryOp .USub a p) env) σ s (.int (-i)) H' := fun Q E h => by
 refine UnaryOp_ (ih k c t a a' loc H _ H' h1 e1 A env σ s rm R S _ _ fun R6 s1 u N1 r1 => ?_)
 simp only [VR] at r1
 obtain ⟨t, rfl⟩ := r1
 exact P.neg_int (h R6 _ _ (N1.trans (Nx.tok N1.sim _)) (by simp [VR]))
theorem ES (ih : SE prog w cls RY ev n) {a : Expr} {a' : E} {i : Bool} {t : Bool} {p : aJ} (h1 : ay k c t a = some a') (e1 : ev a' loc H = some (.bool i, H'))
  (rm : aR A n) (R : aA env c loc σ s.heap) (S : aq prog w cls RY σ H s.heap) : ct prog w cls RY A (eval (.UnaryOp .Not a p) env) σ s (.bool (!i)) H' := fun Q E h => by
 refine UnaryOp_ (ih k c t a a' loc H _ H' h1 e1 A env σ s rm R S _ _ fun R6 s1 u N1 r1 => ?_)
 simp only [VR] at r1
 subst r1
 exact not_of (tI (h R6 _ _ N1 (by simp [VR])))
theorem Ak {x y : V} {b : Bool} {H1 H2 : AH} {l r : Expr} {l' r' : E} {t t' : Bool} {op : CmpOp} {VT : Cm} (ih : SE prog w cls RY ev n) (ho : rV op = some VT)
  (h1 : ay k c t l = some l') (h2 : ay k c t' r = some r') (e1 : ev l' loc H = some (x, H1)) (e2 : ev r' loc H1 = some (y, H2)) (e3 : bF H2 VT x y = some b)
  (rm : aR A n) (R : aA env c loc σ s.heap) (S : aq prog w cls RY σ H s.heap) {Q : aa -> ae -> Prop} {E : aa -> ae -> Prop} (h : ∀ RZ s', Nx prog w cls RY σ s RZ H2 s' -> Q (.bool b) s') :
  af (am prog w) A (eval l env) (fun a Sd => af (am prog w) A (eval r env) (fun b Sp => af (am prog w) A (mR op a b) Q E Sp) E Sd) E s := by
 refine ih k c t l l' loc H x H1 h1 e1 A env σ s rm R S _ _ fun R6 s1 u N1 r1 => ?_
 refine ih k c t' r r' loc H1 y H2 h2 e2 A env R6 s1 rm (R.grow N1.grow) N1.sim _ _ fun Sf s2 v N2 r2 => ?_
 exact J4 ho (by have := rm.units; trivial) N2.sim (r1.grow N2.grow) r2 e3 (h Sf s2 (N1.trans N2))
theorem Oi (ih : SE prog w cls RY ev n) {t : Bool} {op : BoolOp} {p : aJ} : ∀ (es : List Expr) (Si : List E) (x : V) (H H' : AH) (σ : Tk) (s : ae), aS (ay k c t) es = some Si -> lN ev (op == .And) Si loc H = some (x, H') →
  aR A n -> aA env c loc σ s.heap -> aq prog w cls RY σ H s.heap -> ct prog w cls RY A (eval (.BoolOp op es p) env) σ s x H' := by
 intro es
 induction es with
 | nil =>
  intro Si x H H' σ s Sb R9 rm R S
  rw [iN Sb] at R9
  exact Fg R9
 | cons e Se iH =>
  cases Se with
  | nil =>
   intro Si x H H' σ s Sb R9 rm R S
   obtain ⟨e', r', h1, h2, e1⟩ := fb Sb
   rw [e1, iN h2] at R9
   exact yK R9 fun b hb e2 Q E h => BoolOp_one (ih k c t e e' loc H _ _ h1 hb A env σ s rm R S _ _ (e2 ▸ h))
  | cons e2 r =>
   intro Si x H H' σ s Sb R9 rm R S
   obtain ⟨e', r', h1, h2, e3⟩ := fb Sb
   obtain ⟨Yj, UC, h3, h4, e4⟩ := fb h2
   rw [e3, e4] at R9
   rw [e4] at h2
   intro Q E h
   have go : ∀ b H1, ev e' loc H = some (.bool b, H1) -> (∀ R6 s1, Nx prog w cls RY σ s R6 H1 s1 -> (b = (op == .And) -> af (am prog w) A (eval (.BoolOp op (e2 :: r) p) env) Q E s1) /\ (b ≠ (op == .And) -> Q (.bool b) s1)) -> af (am prog w) A (eval (.BoolOp op (e :: e2 :: r) p) env) Q E s := fun b H1 hb g => by
    have UF := ih k c t e e' loc H _ _ h1 hb A env σ s rm R S
    cases op with
    | And =>
     refine BoolOp_and (UF _ _ fun R6 s1 v N1 r1 => ?_)
     rw [show v = .bool b from r1]
     refine tI ?_
     cases b with
     | false => exact (g R6 s1 N1).2 nofun
     | true => exact (g R6 s1 N1).1 rfl
    | Or =>
     refine BoolOp_or (UF _ _ fun R6 s1 v N1 r1 => ?_)
     rw [show v = .bool b from r1]
     refine tI ?_
     cases b with
     | true => exact (g R6 s1 N1).2 nofun
     | false => exact (g R6 s1 N1).1 rfl
   exact Ay R9
    (fun b H1 hb q R9 => go b H1 hb fun R6 s1 N1 => ⟨fun u' => iH (Yj :: UC) x H1 H' R6 s1 h2 R9 rm (R.grow N1.grow) N1.sim _ _ fun Sf s2 v N2 r2 => h Sf s2 v (N1.trans N2) r2, fun n => absurd q n⟩)
    fun b hb q e5 => go b H' hb fun R6 s1 N1 => ⟨fun z => absurd z q, fun u' => h R6 s1 _ N1 (e5 ▸ rfl)⟩
theorem L4 (ib : SB prog w cls RY ev n) {t : Bool} {op : BoolOp} {p : aJ} {US : d8 aa} : ∀ (es : List Expr) (Si : List E) (x : Bool) (H H' : AH) (σ : Tk) (s : ae), es ≠ [] -> aS (ay k c t) es = some Si -> lN ev (op == .And) Si loc H = some (.bool x, H') →
  aR A n -> aA env c loc σ s.heap -> aq prog w cls RY σ H s.heap -> xY prog w cls RY A (isTrue (.BoolOp op es p) env US) σ s x H' := by
 intro es
 induction es with
 | nil =>
  intro Si x H H' σ s SM Sb R9 rm R S
  exact absurd rfl SM
 | cons e Se iH =>
  cases Se with
  | nil =>
   intro Si x H H' σ s SM Sb R9 rm R S
   obtain ⟨e', r', h1, h2, e1⟩ := fb Sb
   rw [e1, iN h2] at R9
   refine yK R9 fun b hb e2 Q E h => ?_
   rw [<-V.bool.inj e2] at hb
   cases op with
   | And =>
    refine CT (ib k c t e e' loc H _ _ h1 hb A env σ s rm R S _ _ fun R6 s1 N1 => ?_)
    cases x
    ·exact h R6 s1 N1
    ·exact isTrue_and_nil (h R6 s1 N1)
   | Or =>
    refine isTrue_or (ib k c t e e' loc H _ _ h1 hb A env σ s rm R S _ _ fun R6 s1 N1 => ?_)
    cases x
    ·exact isTrue_or_nil (h R6 s1 N1)
    ·exact h R6 s1 N1
  | cons e2 r =>
   intro Si x H H' σ s SM Sb R9 rm R S
   obtain ⟨e', r', h1, h2, e3⟩ := fb Sb
   obtain ⟨Yj, UC, h3, h4, e4⟩ := fb h2
   rw [e3, e4] at R9
   rw [e4] at h2
   intro Q E h
   refine Ay R9 (fun b H1 hb q R9 => ?_) fun b hb q e5 => ?_
   ·have next : ∀ R6 s1, Nx prog w cls RY σ s R6 H1 s1 -> af (am prog w) A (isTrue (.BoolOp op (e2 :: r) p) env US) _ E s1 := fun R6 s1 N1 => iH (Yj :: UC) x H1 H' R6 s1 nofun h2 R9 rm (R.grow N1.grow) N1.sim Q E fun Sf s2 N2 => h Sf s2 (N1.trans N2)
    cases op with
    | And =>
     rw [show b = true from q] at hb
     exact CT (ib k c t e e' loc H _ _ h1 hb A env σ s rm R S _ _ next)
    | Or =>
     rw [show b = false from q] at hb
     exact isTrue_or (ib k c t e e' loc H _ _ h1 hb A env σ s rm R S _ _ next)
   ·rw [<-V.bool.inj e5] at hb q
    cases op with
    | And =>
     refine CT (ib k c t e e' loc H _ _ h1 hb A env σ s rm R S _ _ fun R6 s1 N1 => ?_)
     cases x
     ·exact h R6 s1 N1
     ·exact absurd rfl q
    | Or =>
     refine isTrue_or (ib k c t e e' loc H _ _ h1 hb A env σ s rm R S _ _ fun R6 s1 N1 => ?_)
     cases x
     ·exact absurd rfl q
     ·exact h R6 s1 N1
theorem Pp {p : aJ} (lim : RY.NoLimit) (S : aq prog w cls RY σ H s.heap) : ct prog w cls RY A (eval (.Dict [] [] p) env) σ s (.ref H.length) (H ++ [.dict []]) := fun Q E h => by
 have hn : s.heap.get? s.heap.objs.size = none := g0 (bq _)
 have N : Nx prog w cls RY σ s (σ.add [s.heap.objs.size]) (H ++ [.dict []]) { s with heap := s.heap.push { cls := .type "dict", data := .dict #[] } } :=
  Nx.track S hn (fun b o e => br _ e) ⟨[], Qa _, by have := modules_low (lim.keeps S.keep); simpa using xj this, by simp, rfl⟩ rfl rfl
 refine wpAny_Dict_empty (h _ _ _ N ?_)
 simp only [VR]
 exact ⟨_, by rw [<-S.len]; simp [Tk.add], rfl⟩
end
end
section
structure dX (P : List ak) (σ : Tk) (h : ao) (RZ : Tk) (h' : ao) : Prop where
 pre : ∃ t, RZ = σ.add t /\ ∀ a ∈ t, h.get? a = Option.none
 keep : ∀ b o, b ∉ σ.tr -> b ∉ P -> h.get? b = some o -> h'.get? b = some o
 own : ∀ b o, b ∈ P -> h.get? b = some o -> ∃ o', h'.get? b = some o'
theorem bM.toP {P : List ak} {σ RZ : Tk} {h h' : ao} (g : bM σ h RZ h') (hP : ∀ a ∈ P, a ∉ σ.tr) : dX P σ h RZ h' := ⟨g.pre, fun b o n u' e => g.keep b o n e, fun b o n e => ⟨o, g.keep b o (hP b n) e⟩⟩
theorem dX.pv {P : List ak} {σ RZ : Tk} {h h' : ao} (g : dX P σ h RZ h') : RZ.pv = σ.pv := by obtain ⟨t, rfl, ht⟩ := g.pre; rfl
theorem dX.memt {P : List ak} {σ RZ : Tk} {h h' : ao} (g : dX P σ h RZ h') {b : ak} {o : de} (hb : b ∉ σ.tr) (e : h.get? b = some o) : b ∉ RZ.tr := by
 obtain ⟨t, rfl, ht⟩ := g.pre
 intro hm
 rcases aW.mp hm with q | q
 ·exact hb q
 ·rw [ht b q] at e; cases e
theorem dX.mem {P : List ak} {σ RZ : Tk} {h h' : ao} (g : dX P σ h RZ h') {b : ak} {o : de} (hb : b ∉ σ.all) (e : h.get? b = some o) : b ∉ RZ.all := by
 intro hm
 rcases aW.mp hm with q | q
 ·exact Tk.not_pv hb (g.pv ▸ q)
 ·exact g.memt (Tk.not_tr hb) e q
theorem dX.at {P : List ak} {σ RZ : Tk} {h h' : ao} (g : dX P σ h RZ h') {i : Nat} {a : ak} (e : σ.tr[i]? = some a) : RZ.tr[i]? = some a := by
 obtain ⟨t, rfl, _⟩ := g.pre
 rw [Tk.tr_add, gY (bG.mp e).1]; exact e
section
variable {P : List ak} {σ RZ : Tk} {h h' : ao}
theorem dX.mv (g : dX P σ h RZ h') (hP : ∀ a ∈ P, a ∈ σ.pv) : Mv σ h RZ h' := ⟨fun u' u' na ho => g.mem na ho, fun u' u' na ho => g.keep _ _ (Tk.not_tr na) (fun q => Tk.not_pv na (hP _ q)) ho, fun u' u' e => g.at e⟩
theorem VR.growP (g : dX P σ h RZ h') (hP : ∀ a ∈ P, a ∈ σ.pv) {x : V} {v : aa} (r : VR σ h x v) : VR RZ h' x v := r.mv (g.mv hP)
theorem an.growP (g : dX P σ h RZ h') (hP : ∀ a ∈ P, a ∈ σ.pv) {x : List V} {v : List aa} (r : an σ h x v) : an RZ h' x v := r.mv (g.mv hP)
theorem cG.growP (g : dX P σ h RZ h') (hP : ∀ a ∈ P, a ∈ σ.pv) {l : List (Int × V)} {kvs : List (Int × aa)} (r : cG σ h l kvs) : cG RZ h' l kvs := r.mv (g.mv hP)
theorem iF.growP (g : dX P σ h RZ h') (hP : ∀ a ∈ P, a ∈ σ.pv) {m : List (Option V)} {mA : ac -> Option aa} (r : iF σ h m mA) : iF RZ h' m mA := r.mv (g.mv hP)
end
section
variable {prog : aG} {w : aE} {cls : aZ} {RY h h' : ao} {σ RZ : Tk} {H : AH} {P : List ak}
theorem dt.growP (g : dX P σ h RZ h') (hP : ∀ a ∈ P, a ∈ σ.pv) {a : ak} (k : ∀ ob, h.get? a = some ob -> h'.get? a = some ob) {o : ar} (r : dt prog w cls σ h a o) : dt prog w cls RZ h' a o := r.mv (g.mv hP) k
theorem aq.apart (S : aq prog w cls RY σ H h) {a : ak} (ha : a ∈ σ.pv) : a ∉ σ.tr := fun q => by
 have := S.nodup
 unfold Tk.all at this
 rw [bX] at this
 exact this.2.2 a ha a q rfl
theorem aq.poke (S : aq prog w cls RY σ H h) (hP : ∀ a ∈ P, a ∈ σ.pv) (k : ∀ b o, b ∉ P -> h.get? b = some o -> h'.get? b = some o) (own : ∀ b o, b ∈ P -> h.get? b = some o -> ∃ o', h'.get? b = some o') : aq prog w cls RY σ H h' := by
 have G : dX P σ h σ h' := ⟨⟨[], by simp [Tk.add_nil]⟩, fun b o u' nb e => k b o nb e, own⟩
 refine ⟨fun b o e => k b o (fun q => ?_) (S.keep b o e), S.len, S.fresh, S.nodup, fun a ha => ?_, fun i a o e1 e2 => ?_⟩
 ·have := S.fresh b (aV _ (hP b q)); rw [this] at e; cases e
 ·obtain ⟨o, e⟩ := S.pvs a ha
  by_cases q : a ∈ P
  ·exact own a o q e
  ·exact ⟨o, k a o q e⟩
 ·refine (S.objs i a o e1 e2).growP G hP fun ob e => k _ _ (fun q => S.apart (hP _ q) (aT e1)) e
end
structure aX (prog : aG) (w : aE) (cls : aZ) (RY : ao) (P : List ak) (σ : Tk) (s : ae) (RZ : Tk) (H' : AH) (s' : ae) : Prop where
 grow : dX P σ s.heap RZ s'.heap
 sim : aq prog w cls RY RZ H' s'.heap
 gens : s'.gens = s.gens
 os : s'.os = s.os
section
variable {prog : aG} {w : aE} {cls : aZ} {RY : ao} {P : List ak} {σ RZ SX : Tk} {s s' UA : ae} {H H' Tc : AH}
theorem Nx.toP (N : Nx prog w cls RY σ s RZ H' s') (S : aq prog w cls RY σ H s.heap) (hP : ∀ a ∈ P, a ∈ σ.pv) : aX prog w cls RY P σ s RZ H' s' := ⟨N.grow.toP fun a h => S.apart (hP a h), N.sim, N.gens, N.os⟩
theorem aX.refl (S : aq prog w cls RY σ H s.heap) : aX prog w cls RY P σ s σ H s := ⟨⟨⟨[], by simp [Tk.add_nil]⟩, fun u' u' u' u' e => e, fun u' o u' e => ⟨o, e⟩⟩, S, rfl, rfl⟩
theorem aX.trans (a : aX prog w cls RY P σ s RZ H' s') (b : aX prog w cls RY P RZ s' SX Tc UA) : aX prog w cls RY P σ s SX Tc UA := by
 refine ⟨⟨?_, fun x o n p e => b.grow.keep x o (a.grow.memt n e) p (a.grow.keep x o n p e), fun x o p e => ?_⟩, b.sim, b.gens.trans a.gens, b.os.trans a.os⟩
 ·obtain ⟨t, rfl, ht⟩ := a.grow.pre
  obtain ⟨u, rfl, hu⟩ := b.grow.pre
  refine ⟨t ++ u, by simp [Tk.add], fun x hx => ?_⟩
  rcases aW.mp hx with q | q
  ·exact ht x q
  ·cases e : s.heap.get? x with
   | none => rfl
   | some o =>
    exfalso
    have hn := hu x q
    by_cases m : x ∈ σ.tr
    ·obtain ⟨o', e'⟩ := a.sim.there (aV t m)
     rw [hn] at e'; cases e'
    ·by_cases p : x ∈ P
     ·obtain ⟨o', e'⟩ := a.grow.own x o p e; rw [hn] at e'; cases e'
     ·have := a.grow.keep x o m p e; rw [hn] at this; cases this
 ·obtain ⟨o', e'⟩ := a.grow.own x o p e
  exact b.grow.own x o' p e'
end
noncomputable def Tk.own (σ : Tk) (ps : List ak) : Tk := ⟨ps ++ σ.pv, σ.tr⟩
theorem Tk.own_all {σ : Tk} {ps : List ak} {a : ak} (h1 : a ∉ σ.all) (h2 : a ∉ ps) : a ∉ (σ.own ps).all := by
 simp only [Tk.all, Tk.own, aW, not_or] at h1 ⊢; exact ⟨⟨h2, h1.1⟩, h1.2⟩
theorem Tk.all_own {σ : Tk} {ps : List ak} {a : ak} (h : a ∉ (σ.own ps).all) : a ∉ σ.all := by
 simp only [Tk.all, Tk.own, aW, not_or] at h ⊢; exact ⟨h.1.2, h.2⟩
theorem Tk.own_not {σ : Tk} {ps : List ak} {a : ak} (h : a ∉ (σ.own ps).all) : a ∉ ps := by
 simp only [Tk.all, Tk.own, aW, not_or] at h; exact h.1.1
section
variable {σ τ : Tk} {h h' : ao} {ps : List ak}
theorem vM (hn : ∀ a ∈ ps, h.get? a = none) (k : ∀ b o, h.get? b = some o -> h'.get? b = some o) : Mv σ h (σ.own ps) h' := ⟨fun a o na ho => Tk.own_all na fun q => (nomatch (hn a q).symm.trans ho), fun a o u' e => k a o e, fun u' u' e => e⟩
theorem wB (ha : ∀ a, a ∉ (σ.own ps).all -> a ∉ τ.all) (ht : ∀ (i : Nat) a, σ.tr[i]? = some a -> τ.tr[i]? = some a) (k : ∀ b o, b ∉ ps -> h.get? b = some o -> h'.get? b = some o) : Mv (σ.own ps) h τ h' := ⟨fun a u' na u' => ha a na, fun a o na e => k a o (Tk.own_not na) e, ht⟩
section
variable (hn : ∀ a ∈ ps, h.get? a = none) (k : ∀ b o, h.get? b = some o -> h'.get? b = some o)
include hn k
theorem VR.enter {x : V} {v : aa} (r : VR σ h x v) : VR (σ.own ps) h' x v := r.mv (vM hn k)
theorem an.enter {x : List V} {v : List aa} (r : an σ h x v) : an (σ.own ps) h' x v := r.mv (vM hn k)
end
section
variable (ha : ∀ a, a ∉ (σ.own ps).all -> a ∉ τ.all) (ht : ∀ (i : Nat) a, σ.tr[i]? = some a -> τ.tr[i]? = some a) (k : ∀ b o, b ∉ ps -> h.get? b = some o -> h'.get? b = some o)
include ha ht k
theorem VR.leave {x : V} {v : aa} (r : VR (σ.own ps) h x v) : VR τ h' x v := r.mv (wB ha ht k)
theorem an.leave {x : List V} {v : List aa} (r : an (σ.own ps) h x v) : an τ h' x v := r.mv (wB ha ht k)
end
variable {prog : aG} {w : aE} {cls : aZ} {RY : ao} {H : AH}
theorem dt.enter (hn : ∀ a ∈ ps, h.get? a = none) (k : ∀ b o, h.get? b = some o -> h'.get? b = some o) {a : ak} {o : ar} (r : dt prog w cls σ h a o) : dt prog w cls (σ.own ps) h' a o := r.mv (vM hn k) fun u' e => k _ _ e
theorem dt.leave (hA : ∀ a, a ∉ (σ.own ps).all -> a ∉ τ.all) (ht : ∀ (i : Nat) a, σ.tr[i]? = some a -> τ.tr[i]? = some a) (k : ∀ b o, b ∉ ps -> h.get? b = some o -> h'.get? b = some o) {a : ak} (ha : a ∉ ps) {o : ar} (r : dt prog w cls (σ.own ps) h a o) : dt prog w cls τ h' a o := r.mv (wB hA ht k) fun u' e => k _ _ ha e
theorem aq.enter (S : aq prog w cls RY σ H h) (hn : ∀ a ∈ ps, h.get? a = none) (hd : ps.Nodup) (hp : ∀ a ∈ ps, ∃ ob, h'.get? a = some ob) (k : ∀ b o, h.get? b = some o -> h'.get? b = some o) :
  aq prog w cls RY (σ.own ps) H h' := by
 refine ⟨fun b o e => k b o (S.keep b o e), S.len, fun a ha => ?_, ?_, fun a ha => ?_, fun i a o e1 e2 => (S.objs i a o e1 e2).enter hn k⟩
 ·simp only [Tk.all, Tk.own, fL, aW] at ha
  rcases ha with q | q
  ·exact S.out (hn a q)
  ·exact S.fresh a (by simpa [Tk.all] using q)
 ·simp only [Tk.all, Tk.own, fL]
  rw [bX]
  exact ⟨hd, S.nodup, fun x hx y hy e => S.new' (hn x hx) (e ▸ hy)⟩
 ·rcases aW.mp ha with q | q
  ·exact hp a q
  ·obtain ⟨ob, e⟩ := S.pvs a q; exact ⟨ob, k _ _ e⟩
theorem aq.leave (S : aq prog w cls RY (σ.own ps) H h) (k : ∀ b o, b ∉ ps -> h.get? b = some o -> h'.get? b = some o) (ht : τ.tr = σ.tr) (hp : ∀ a ∈ τ.pv, a ∈ (σ.own ps).pv) (hn : τ.pv.Nodup) (he : ∀ a ∈ τ.pv, ∃ ob, h'.get? a = some ob) : aq prog w cls RY τ H h' := by
 have nd := S.nodup
 have hA : ∀ a, a ∉ (σ.own ps).all -> a ∉ τ.all := fun a na q => by
  rcases aW.mp q with q | q
  ·exact Tk.not_pv na (hp a q)
  ·exact Tk.not_tr na (ht ▸ q)
 have hT : ∀ (i : Nat) a, σ.tr[i]? = some a -> τ.tr[i]? = some a := fun i a e => by rw [ht]; exact e
 have np : ∀ a, a ∈ σ.tr -> a ∉ ps := fun a ha q => S.apart (aV _ q) ha
 refine ⟨fun b o e => k b o (fun q => ?_) (S.keep b o e), by rw [ht]; exact S.len, fun a ha => ?_, ?_, he, fun i a o e1 e2 => ?_⟩
 ·have := S.fresh b (aV _ (aV _ q)); rw [this] at e; cases e
 ·rcases aW.mp ha with q | q
  ·exact S.fresh a (aV _ (hp a q))
  ·exact S.fresh a (be _ (ht ▸ q))
 ·unfold Tk.all
  rw [bX]
  refine ⟨hn, ?_, fun x hx y hy e => ?_⟩
  ·unfold Tk.all at nd
   rw [bX] at nd
   rw [ht]; exact nd.2.1
  ·subst e; exact S.apart (hp _ hx) (ht ▸ hy)
 ·rw [ht] at e1
  exact (S.objs i a o e1 e2).leave hA hT k (np a (aT e1))
theorem aA.enter {env : bH} {c : TC} {loc : Loc} (R : aA env c loc σ h) (hn : ∀ a ∈ ps, h.get? a = none) (k : ∀ b o, h.get? b = some o -> h'.get? b = some o) : aA env c loc (σ.own ps) h' := by
 obtain ⟨m, hm, hv⟩ := R.locs
 refine ⟨R.scope, R.fn, R.glob, R.blt, R.n, R.inj, R.apart, R.lt, ⟨be _ R.nloc.1, R.nloc.2⟩, fun x a e => ?_, ⟨m, hm.keeps k, fun x i v a b e => let ⟨val, q, r⟩ := hv x i v a b e; ⟨val, q, r.enter hn k⟩⟩, fun x i a b => ?_⟩
 ·obtain ⟨q1, q2, q3, ov, q4⟩ := R.ncell x a e
  exact ⟨be _ q1, q2, q3, ov, q4.keeps k⟩
 ·obtain ⟨ad, ov, e, hc, q⟩ := R.cells x i a b
  exact ⟨ad, ov, e, hc.keeps k, fun v hv => let ⟨val, q, r⟩ := q v hv; ⟨val, q, r.enter hn k⟩⟩
theorem aA.leave {env : bH} {c : TC} {loc : Loc} (R : aA env c loc (σ.own ps) h) (hA : ∀ a, a ∉ (σ.own ps).all -> a ∉ τ.all) (hT : ∀ (i : Nat) a, σ.tr[i]? = some a -> τ.tr[i]? = some a) (k : ∀ b o, b ∉ ps -> h.get? b = some o -> h'.get? b = some o) (hl : env.locals ∈ τ.pv /\ env.locals ∉ ps /\ env.locals ∉ τ.tr) (hc : ∀ x a, env.cells.lookup x = some a -> a ∈ τ.pv /\ a ∉ ps /\ a ∉ τ.tr) : aA env c loc τ h' := by
 obtain ⟨m, hm, hv⟩ := R.locs
 have kc : ∀ {x a ov}, env.cells.lookup x = some a -> h.IsCell a ov -> h'.IsCell a ov := fun e ⟨o, ho, d⟩ => ⟨o, k _ _ (hc _ _ e).2.1 ho, d⟩
 refine ⟨R.scope, R.fn, R.glob, R.blt, R.n, R.inj, R.apart, R.lt, ⟨hl.1, hl.2.2⟩, fun x a e => ?_, ⟨m, hm.at fun o e => k _ _ hl.2.1 e, fun x i v a b e => let ⟨val, q, r⟩ := hv x i v a b e; ⟨val, q, r.leave hA hT k⟩⟩, fun x i a b => ?_⟩
 ·obtain ⟨q1, q2, q3, ov, q4⟩ := R.ncell x a e
  exact ⟨(hc x a e).1, (hc x a e).2.2, q3, ov, kc e q4⟩
 ·obtain ⟨ad, ov, e, TN, q⟩ := R.cells x i a b
  exact ⟨ad, ov, e, kc e TN, fun v hv => let ⟨val, q, r⟩ := q v hv; ⟨val, q, r.leave hA hT k⟩⟩
end
end
section
section
variable {prog : aG} {w : aE} {cls : aZ} {RY : ao} {A : bm} {E : aa -> ae -> Prop} {σ : Tk} {s s' : ae} {H H' : AH}
theorem A4 {α : Type} : ∀ {l : List α}, l.Nodup -> ∀ {i j : Nat} {x : α}, l[i]? = some x -> l[j]? = some x -> i = j := by
 intro l
 induction l with
 | nil =>
  intro _ _ _ _ h _
  simp at h
 | cons a l iH =>
  intro nd i j x h1 h2
  rw [dh] at nd
  cases i <;> cases j <;> simp at h1 h2
  ·rfl
  ·subst h1; exact absurd (aT h2) nd.1
  ·subst h2; exact absurd (aT h1) nd.1
  ·rw [iH nd.2 h1 h2]
theorem Nx.change {j : Nat} {d : ak} {o' : ar} (S : aq prog w cls RY σ H s.heap) (hj : σ.tr[j]? = some d) (k : ∀ b o, b ≠ d -> s.heap.get? b = some o -> s'.heap.get? b = some o)
  (r' : (∀ x v, VR σ s.heap x v -> VR σ s'.heap x v) -> (∀ x v, an σ s.heap x v -> an σ s'.heap x v) -> (∀ x v, cG σ s.heap x v -> cG σ s'.heap x v) -> dt prog w cls σ s'.heap d o') (g : s'.gens = s.gens) (os : s'.os = s.os) :
  Nx prog w cls RY σ s σ (H.set j o') s' := by
 have hd : d ∈ σ.tr := aT hj
 have G : bM σ s.heap σ s'.heap := ⟨⟨[], by simp [Tk.add_nil]⟩, fun b o n e => k b o (fun q => n (q ▸ hd)) e⟩
 have nd : σ.tr.Nodup := by have := S.nodup; unfold Tk.all at this; rw [bX] at this; exact this.2.1
 refine ⟨G, ⟨fun b o e => k b o (fun q => ?_) (S.keep b o e), by simp [S.len], S.fresh, S.nodup, fun a ha => ?_, fun i a o e1 e2 => ?_⟩, g, os⟩
 ·have := S.fresh d (be _ hd); subst q; rw [this] at e; cases e
 ·obtain ⟨ob, e⟩ := S.pvs a ha
  exact ⟨ob, k _ _ (fun q => S.apart ha (q ▸ hd)) e⟩
 ·by_cases q : i = j
  ·subst q
   rw [hj] at e1
   cases e1
   rw [kf (by rw [<-S.len]; exact (bG.mp hj).1)] at e2
   cases e2
   exact r' (fun x v h => h.grow G) (fun x v h => h.grow G) fun x v h => h.grow G
  ·rw [qQ (fun e => q e.symm)] at e2
   refine (S.objs i a o e1 e2).grow G fun ob e => k _ _ (fun z => q ?_) e
   subst z
   exact A4 nd e1 hj
theorem qA {i : Nat} {a : ak} {g : List V} {vs : Array aa} {n : Nat} (S : aq prog w cls RY σ H s.heap) (ha : σ.tr[i]? = some a) (e : s.heap.get? a = some { cls := .type "list", data := .seq vs n }) (f : Array aa -> Array aa) (hg : g.length < 100000)
  (hv : an σ s.heap g (f vs).toList) : Nx prog w cls RY σ s σ (H.set i (.list g)) { s with heap := s.heap.update a (eS f) } := by
 have q := PySem.IsL.update (l := a) (items := vs) (n := n) e f
 refine Nx.change S ha (fun b o nb eb => (mY s.heap a _).extBut b o nb eb) (fun u' h2 u' => ⟨f vs, ⟨_, q⟩, hg, h2 _ _ hv⟩) rfl rfl
theorem cG.length {h : ao} : ∀ {l : List (Int × V)} {kvs : List (Int × aa)}, cG σ h l kvs -> l.length = kvs.length := by
 intro l
 induction l with
 | nil =>
  intro _ r
  rw [show _ = [] from r]; rfl
 | cons _ _ iH =>
  intro _ r
  obtain ⟨v, q, e, _, r2⟩ := r; rw [e]; exact congrArg (· + 1) (iH r2)
theorem cG.keys {h : ao} : ∀ {l : List (Int × V)} {kvs : List (Int × aa)}, cG σ h l kvs -> kvs.map (·.1) = l.map (·.1) := by
 intro l
 induction l with
 | nil =>
  intro _ r
  rw [show _ = [] from r]; rfl
 | cons _ _ iH =>
  intro _ r
  obtain ⟨v, q, e, _, r2⟩ := r; rw [e, cA, cA, iH r2]
theorem Jp {k : Int} {v : aa} : ∀ {kvs : List (Int × aa)}, k ∉ kvs.map (·.1) -> kvs.map (fun kv => if kv.1 = k then (kv.1, v) else kv) = kvs := by
 intro kvs
 induction kvs with
 | nil =>
  intro _
  exact rfl
 | cons Se r iH =>
  obtain ⟨a, b⟩ := Se
  intro h
  rw [cA, iH fun q => h (.tail _ q), if_neg fun e : a = k => h (e ▸ .head _)]
theorem Mg {k : Int} {u v : aa} {q : List (Int × aa)} (n : k ∉ q.map (·.1)) : lz ((k, u) :: q) k v = (k, v) :: q := by
 unfold lz
 rw [if_pos (by rw [tG, decide_eq_true rfl]; rfl), cA, Jp n, if_pos rfl]
theorem Hz {k a : Int} {u v : aa} {q : List (Int × aa)} (n : ¬ a = k) : lz ((a, u) :: q) k v = (a, u) :: lz q k v := by
 unfold lz
 rw [tG, decide_eq_false n, CU, cA, if_neg n]
 split <;> rfl
theorem cG.put {h : ao} {k : Int} {x : V} {v : aa} (r : VR σ h x v) : ∀ {l : List (Int × V)} {kvs : List (Int × aa)}, cG σ h l kvs -> (kvs.map (·.1)).Nodup -> cG σ h (dictPut l k x) (lz kvs k v) := by
 intro l
 induction l with
 | nil =>
  intro _ q _
  rw [show _ = [] from q]
  exact ⟨v, [], rfl, r, rfl⟩
 | cons Se l iH =>
  obtain ⟨a, b⟩ := Se
  intro kvs q nd
  obtain ⟨u, q, e, r1, r2⟩ := q
  rw [e] at nd ⊢
  obtain ⟨n1, n2⟩ := dh.mp nd
  show cG σ h (if a = k then (a, x) :: l else (a, b) :: dictPut l k x) _
  by_cases z : a = k
  ·rw [if_pos z, z, Mg (z ▸ n1)]
   exact ⟨v, q, rfl, r, r2⟩
  ·rw [if_neg z, Hz z]
   exact ⟨u, _, rfl, r1, iH r2 n2⟩
theorem zA {i : Nat} {a : ak} {l : List (Int × V)} {kvs : List (Int × aa)} {h' : ao} {t : Nat} (S : aq prog w cls RY σ H s.heap) (ha : σ.tr[i]? = some a) (sm : (a == xa) = false) (hd : h'.DictOf (lr prog w) a kvs) (hs : oH a s.heap h') (hg : l.length < 100000)
  (hv : cG σ s.heap l kvs) : Nx prog w cls RY σ s σ (H.set i (.dict l)) { s with heap := h', toks := t } := by
 exact Nx.change S ha (fun b o nb eb => hs.extBut b o nb eb) (fun u' u' h3 => ⟨kvs, hd, sm, hg, h3 _ _ hv⟩) rfl rfl
theorem Oj : dE.Nodup := by decide +kernel
theorem D2 (B : ∀ c, c < 2 -> jS cls RY c) (S : aq prog w cls RY σ H s.heap) {i c j k : Nat} {a : ak} {m : List (Option V)} {n : ac} {x : V} {v : aa} {Q : Unit -> ae -> Prop} (ha : σ.tr[i]? = some a) (hi : ag H i = some (.inst c j)) (hj : ag H j = some (.attrs m))
  (hn : dE[k]? = some n) (r : VR σ s.heap x v) (h : ∀ s', Nx prog w cls RY σ s σ (H.set j (.attrs (m.set k (some x)))) s' -> Q () s') : af (am prog w) A (setAttr (.ref a) n v) Q E s := by
 obtain ⟨d, mA, hc, hd, SM, I, R, C, g1, g2, g3, g4, _, _, o, ho, UY⟩ := S.inst B ha hi hj
 obtain ⟨nm, q, bs, sn, sub, W7, dd, k0, k1, k2, k3, k5, hC⟩ := C.obj
 have hm := aT hn
 have U0 : d ∈ σ.tr := aT hd
 have ZR : a ≠ cls.at_ c := fun e => by
  obtain ⟨_, _, _, _, _, _, _, _, _, _, _, _, hC'⟩ := (B c hc).isCls.obj
  have := S.fresh a (be _ (aT ha))
  rw [e, hC'] at this; cases this
 have hw : Within mA dE := fun y hy => by
  have : (mA y).isSome = true := by cases h : mA y <;> simp_all
  obtain ⟨k', _, e1, _⟩ := R.only y this
  exact aT e1
 obtain ⟨hp, g, dr, t, os⟩ := s
 refine store_attrFk F.store_object hC C.ns g3 (g4 n hm) (Av n hm) ZR I (fun h' tk' I' hk TM => h _ ?_) hw (by decide +kernel)
 have keep : ∀ b ob, b ≠ d -> hp.get? b = some ob -> h'.get? b = some ob := fun b ob nb eb => by
  by_cases z : b = a
  ·subst z
   obtain ⟨Xm, e1, q1, q2, q3, q4⟩ := TM _ eb
   have : ob = o := aC (eb.symm.trans ho)
   subst this
   have q5 := q4 d UY
   obtain ⟨c1, d1, da1, Vx⟩ := Xm
   obtain ⟨c2, d2, da2, U6⟩ := ob
   simp only at q1 q2 q3 q5 UY
   subst q1 q2 q3
   rw [e1, q5, UY]
  ·exact hk b ob z (fun Xn dx e1 e2 => by
    have : Xn = o := aC (e1.symm.trans ho)
    subst this
    rw [UY] at e2; cases e2; exact nb) eb
 obtain ⟨oi, e1, e2, e3, e4⟩ := I'
 have Vi : oi = o := aC (e1.symm.trans (keep a o (fun e => SM e.symm) ho))
 subst Vi
 rcases e4 with ⟨e5, _⟩ | ⟨d', e5, e6, e7, e8⟩
 ·rw [UY] at e5; cases e5
 rw [UY] at e5; cases e5
 have Sk : (∀ x v, VR σ hp x v -> VR σ h' x v) -> dt prog w cls σ h' d (.attrs (m.set k (some x))) := fun up => by
  refine ⟨_, e7, e8, by simp [R.len], fun k' n' x' f1 f2 => ?_, fun n' f => ?_⟩
  ·by_cases z : k' = k
   ·subst z
    rw [hn] at f1; cases f1
    rw [kf (by have := (bG.mp hn).1; rw [R.len]; exact this)] at f2
    cases f2
    exact ⟨v, by simp, up _ _ r⟩
   ·rw [qQ (fun e => z e.symm)] at f2
    obtain ⟨v', f3, f4⟩ := R.some k' n' x' f1 f2
    refine ⟨v', ?_, up _ _ f4⟩
    have : n' ≠ n := fun e => by
     subst e
     exact z (A4 Oj f1 hn)
    simp only [this, if_false]; exact f3
  ·by_cases z : n' = n
   ·subst z
    exact ⟨k, x, hn, by rw [kf (by have := (bG.mp hn).1; rw [R.len]; exact this)]⟩
   ·simp only [z, if_false] at f
    obtain ⟨k', x', f1, f2⟩ := R.only n' f
    refine ⟨k', x', f1, ?_⟩
    rw [qQ (fun e => z ?_)]
    ·exact f2
    ·subst e; rw [hn] at f1; cases f1; rfl
 exact Nx.change S hd keep (fun up u' u' => Sk up) rfl rfl
theorem zx {l : List (Int × V)} {k : Int} {x : V} : (dictPut l k x).length <= l.length + 1 := by
 induction l with
 | nil => exact bq _
 | cons p l ih =>
  show (if p.1 = k then (p.1, x) :: l else p :: dictPut l k x).length <= _
  split
  ·exact io _
  ·exact mK ih
theorem K6 (S : aq prog w cls RY σ H s.heap) {i : Nat} {a : ak} {k : Int} {t : Tok} {x : V} {v : aa} {Q : Unit -> ae -> Prop} (ha : σ.tr[i]? = some a) (r : VR σ s.heap x v)
  (e : gL H (.ref i) (.int k) x = some H') (h : ∀ s', Nx prog w cls RY σ s σ H' s' -> Q () s') : af (am prog w) A (setItem (.ref a) (.int k t) v) Q E s := by
 refine wx e (fun l hl e => bT e fun q e => ?_) fun l hl e => bT e fun q e => ?_
 ·obtain ⟨q1, q2⟩ := bk.mp q
  obtain ⟨vs, ⟨n, eo⟩, ln, rr⟩ := S.objs i a _ ha hl
  have z := rr.size
  have q2 := of_decide_eq_true q2
  have q1 := of_decide_eq_true q1
  refine ki_setAt (n := n) eo q1 (by trivial) (by trivial) (h _ (aC e ▸ ?_))
  exact qA S ha eo _ (by rw [mZ]; exact ln) (by rw [Array.toList_setIfInBounds]; exact rr.set r _)
 ·obtain ⟨kvs, hd, sm, ln, rr⟩ := S.objs i a _ ha hl
  obtain ⟨_, _, _, _, _, _, _, _, nd⟩ := id hd
  exact wpAny_setItem_pairs (xh _ _ _ _) hd (fun h' S8 Tq => h _ (aC e ▸ zA S ha sm S8 Tq (cL zx (cH (xk q) (by decide))) (rr.put r nd)))
   (by have := rr.length; rw [cQ]; trivial)
end
end
section
set_option backward.match.sparseCases false
structure cN (env : bH) (c : TC) (P : List ak) (lo : Nat) (σ : Tk) : Prop where
 loc : env.locals ∈ P
 cell : ∀ x i a, c.tab.lookup x = some i -> lo <= i -> env.cells.lookup x = some a -> a ∈ P
 sub : ∀ a ∈ P, a ∈ σ.pv
section
variable {prog : aG} {w : aE} {cls : aZ} {RY : ao} {A : bm} {E : aa -> ae -> Prop} {σ RZ : Tk} {s s' : ae} {H H' : AH} {env : bH} {c : TC} {loc : Loc} {P : List ak} {lo : Nat}
theorem cN.grow (O : cN env c P lo σ) (h : RZ.pv = σ.pv) : cN env c P lo RZ := ⟨O.loc, O.cell, fun a ha => h ▸ O.sub a ha⟩
theorem aA.growP (R : aA env c loc σ s.heap) (g : dX P σ s.heap RZ s'.heap) (hP : ∀ a ∈ P, a ∈ σ.pv) (hl : env.locals ∉ P) (hc : ∀ x a, env.cells.lookup x = some a -> a ∉ P) : aA env c loc RZ s'.heap := by
 obtain ⟨m, hn, hm⟩ := R.locs
 have kl : ∀ o, s.heap.get? env.locals = some o -> s'.heap.get? env.locals = some o := fun o e => g.keep _ _ R.nloc.2 hl e
 have kc : ∀ {x a ov}, env.cells.lookup x = some a -> s.heap.IsCell a ov -> s'.heap.IsCell a ov := fun e ⟨o, ho, d⟩ => ⟨o, g.keep _ _ (R.ncell _ _ e).2.1 (hc _ _ e) ho, d⟩
 have mv := g.mv hP
 exact ⟨R.scope, R.fn, R.glob, R.blt, R.n, R.inj, R.apart, R.lt, ⟨g.pv ▸ R.nloc.1, let ⟨_, _, _, ho, _⟩ := hn; g.memt R.nloc.2 ho⟩,
  fun x a e => let ⟨na, nt, nl, ov, ho⟩ := R.ncell x a e; ⟨g.pv ▸ na, let ⟨_, Th, _⟩ := ho; g.memt nt Th, nl, ov, kc e ho⟩,
  ⟨m, let ⟨o, es, ep, ho, r⟩ := hn; ⟨o, es, ep, kl _ ho, r⟩, fun x i v a b e => let ⟨val, q, r⟩ := hm x i v a b e; ⟨val, q, r.mv mv⟩⟩,
  fun x i a b => let ⟨ad, ov, e, hc, k⟩ := R.cells x i a b; ⟨ad, ov, e, kc e hc, fun v hv => let ⟨val, q, r⟩ := k v hv; ⟨val, q, r.mv mv⟩⟩⟩
theorem uO {e : Expr} {i : Nat} (h : jV c e = some i) : ∃ x p, e = .Name x p /\ c.tab.lookup x = some i /\ (c.scope.names.lookup x = some .local \/ c.scope.names.lookup x = some .cell) :=
 vz h fun x p e h => ⟨x, p, e, rO h⟩
theorem aA.ne (R : aA env c loc σ s.heap) {x z : ac} {i j : Nat} (ht : c.tab.lookup x = some i) (e : c.tab.lookup z = some j) (q : z ≠ x) (l : Loc) (y : Option V) : (l.set i y)[j]? = l[j]? :=
 qQ fun h : i = j => q (R.inj _ _ _ e (by rw [<-h]; exact ht))
theorem AD {d : ak} {h' : ao} {t : Nat} (S : aq prog w cls RY σ H s.heap) (sub : ∀ a ∈ P, a ∈ σ.pv) (hd : d ∈ P) (hs : oH d s.heap h') (there : ∃ ob, h'.get? d = some ob) : aX prog w cls RY P σ s σ H { s with heap := h', toks := t } := by
 have k : ∀ b o, b ∉ P -> s.heap.get? b = some o -> h'.get? b = some o := fun b o nb e => hs.extBut b o (fun q => nb (q ▸ hd)) e
 have own : ∀ b o, b ∈ P -> s.heap.get? b = some o -> ∃ o', h'.get? b = some o' := fun b o nb e => by
  by_cases q : b = d
  ·rw [q]; exact there
  ·exact ⟨o, hs.extBut b o q e⟩
 exact ⟨⟨⟨[], (Tk.add_nil σ).symm, fun u' h => (nomatch h)⟩, fun b o u' nb e => k b o nb e, own⟩, S.poke sub k own, rfl, rfl⟩
theorem qp {x : ac} {i : Nat} {y : V} {v : aa} {Q : Unit -> ae -> Prop} (ht : c.tab.lookup x = some i) (hk : c.scope.names.lookup x = some .local \/ c.scope.names.lookup x = some .cell) (hi : lo <= i) (O : cN env c P lo σ)
  (R : aA env c loc σ s.heap) (S : aq prog w cls RY σ H s.heap) (r : VR σ s.heap y v) (h : ∀ s', aX prog w cls RY P σ s σ H s' -> aA env c (loc.set i (some y)) σ s'.heap -> Q () s') : af (am prog w) A (storeName env x v) Q E s := by
 have YZ : env.scope.kind = .function := R.scope ▸ R.fn
 have Vl : ∀ k, c.scope.names.lookup x = some k -> env.kindOf x = some k := fun k e => by unfold qN; rw [R.scope]; exact e
 obtain ⟨m, hn, hm⟩ := R.locs
 have Uj : i < loc.length := by rw [R.n]; exact R.lt x i ht
 have self : ∀ {u : V} {j : Nat}, c.tab.lookup x = some j -> (loc.set i (some y))[j]? = some (some u) -> u = y := fun {u j} e1 e3 => by
  rw [<-aC (ht.symm.trans e1), kf Uj] at e3
  exact (aC (aC e3)).symm
 have hz : (loc.set i (some y)).length = c.n := mZ.trans R.n
 rcases hk with hk | hk
 ·refine wpAny_storeName_local (Vl _ hk) hn (fun h' YN hs => ?_) (by rw [YZ]; rfl)
  have N : aX prog w cls RY P σ s σ H { s with heap := h', toks := s.toks + 1 } := AD S O.sub O.loc hs (let ⟨o, _, _, e, _⟩ := YN; ⟨o, e⟩)
  have mv := N.grow.mv O.sub
  refine h _ N ⟨R.scope, R.fn, R.glob, R.blt, hz, R.inj, R.apart, R.lt, R.nloc, fun z a e => let ⟨q1, q2, q3, ov, q4⟩ := R.ncell z a e; ⟨q1, q2, q3, ov, q4.sameBut hs q3⟩, ⟨_, YN, fun z j u e1 e2 e3 => ?_⟩, fun z j e1 e2 => ?_⟩
  ·by_cases q : z = x
   ·rw [q] at e1
    exact ⟨v, if_pos q, self e1 e3 ▸ r.mv mv⟩
   ·rw [R.ne ht e1 q] at e3
    obtain ⟨val, f1, f2⟩ := hm z j u e1 e2 e3
    exact ⟨val, (if_neg q).trans f1, f2.mv mv⟩
  ·obtain ⟨ad, ov, f1, f2, f3⟩ := R.cells z j e1 e2
   refine ⟨ad, ov, f1, f2.sameBut hs (R.ncell z ad f1).2.2.1, fun u hu => ?_⟩
   have q : z ≠ x := fun e => by rw [e, hk] at e2; rcases e2 with e2 | e2 <;> exact nomatch e2
   rw [R.ne ht e1 q] at hu
   obtain ⟨val, f4, f5⟩ := f3 u hu
   exact ⟨val, f4, f5.mv mv⟩
 ·obtain ⟨d, ov, hd, Wp, _⟩ := R.cells x i ht (.inl hk)
  obtain ⟨n1, n2, n3, _⟩ := R.ncell x d hd
  refine wpAny_storeName_cell YZ (Vl _ hk) hd Wp fun h' TN hs => ?_
  have N : aX prog w cls RY P σ s σ H { s with heap := h', toks := s.toks } := AD S O.sub (O.cell x i d ht hi hd) hs (let ⟨o, e, _⟩ := TN; ⟨o, e⟩)
  have mv := N.grow.mv O.sub
  refine h _ N ⟨R.scope, R.fn, R.glob, R.blt, hz, R.inj, R.apart, R.lt, R.nloc, fun z a e => ?_, ⟨m, hn.sameBut hs (fun e => n3 e.symm), fun z j u e1 e2 e3 => ?_⟩, fun z j e1 e2 => ?_⟩
  ·obtain ⟨q1, q2, q3, ov, q4⟩ := R.ncell z a e
   refine ⟨q1, q2, q3, ?_⟩
   by_cases q : a = d
   ·exact ⟨_, q ▸ TN⟩
   ·exact ⟨ov, q4.sameBut hs q⟩
  ·have q : z ≠ x := fun e => by rw [e, hk] at e2; exact nomatch e2
   rw [R.ne ht e1 q] at e3
   obtain ⟨val, f1, f2⟩ := hm z j u e1 e2 e3
   exact ⟨val, f1, f2.mv mv⟩
  ·by_cases q : z = x
   ·rw [q] at e1 ⊢
    exact ⟨d, _, hd, TN, fun u hu => ⟨v, rfl, self e1 hu ▸ r.mv mv⟩⟩
   ·obtain ⟨ad, ZD, f1, f2, f3⟩ := R.cells z j e1 e2
    refine ⟨ad, ZD, f1, f2.sameBut hs (fun e => q (R.apart z x ad f1 (e ▸ hd))), fun u hu => ?_⟩
    rw [R.ne ht e1 q] at hu
    obtain ⟨val, f4, f5⟩ := f3 u hu
    exact ⟨val, f4, f5.mv mv⟩
theorem Nh : ∀ (es : List Expr) (l : List Nat) (vs : List V) (items : List aa) (loc : Loc) (s : ae) (Q : Unit -> ae -> Prop), aS (jV c) es = some l -> (∀ i ∈ l, lo <= i) -> vs.length = l.length -> cN env c P lo σ →
  aA env c loc σ s.heap -> aq prog w cls RY σ H s.heap -> an σ s.heap vs items -> (∀ s', aX prog w cls RY P σ s σ H s' -> aA env c (gG l vs loc) σ s'.heap -> Q () s') →
  af (am prog w) A (oJ ((ip es env).map (·.2)) items) Q E s := by
 intro es
 induction es with
 | nil =>
  intro l vs items loc s Q he S9 hz O R S r h
  rw [iN he] at hz h
  rw [ik hz] at r h
  rw [show items = [] from r]
  exact av (h s (aX.refl S) R)
 | cons e es iH =>
  intro l vs items loc s Q he S9 hz O R S r h
  obtain ⟨i, l', h1, h2, e1⟩ := fb he
  obtain ⟨x, p, e2, ht, hk⟩ := uO h1
  rw [e1] at hz h S9
  cases vs with
  | nil => exact absurd hz (Nat.zero_ne_add_one _)
  | cons y vs =>
   obtain ⟨v, Ss, e3, r1, r2⟩ := r
   rw [e2, e3]
   show af (am prog w) A (do iR Ss (assign (.Name x p) env v); oJ ((ip es env).map (·.2)) Ss) Q E s
   refine ah (dS (xl (qp ht hk (S9 i (aL)) O R S r1 fun s1 N1 R1 => ?_)))
   exact iH l' vs Ss _ s1 Q h2 (fun j hj => S9 j (aQ _ hj)) (gC hz) O R1 N1.sim (r2.growP N1.grow O.sub) fun s2 N2 R2 => h s2 (N1.trans N2) R2
theorem E5 : ∀ {es : List Expr} {l : List Nat}, aS (jV c) es = some l -> (ip es env).length = es.length /\ (ip es env).findIdx? (·.1) = none := by
 intro es
 induction es with
 | nil =>
  intro l h
  exact ⟨rfl, rfl⟩
 | cons e es iH =>
  intro l h
  obtain ⟨i, l', h1, h2, _⟩ := fb h
  obtain ⟨x, p, e1, _⟩ := uO h1
  have ih := iH h2
  rw [e1, show ip (.Name x p :: es) env = (false, assign (.Name x p) env) :: ip es env from rfl]
  refine ⟨congrArg (· + 1) ih.1, ?_⟩
  rw [Qc, if_neg aY, ih.2]; rfl
theorem Nx.kept {h' : ao} {t : Nat} (S : aq prog w cls RY σ H s.heap) (k : ∀ b o, s.heap.get? b = some o -> h'.get? b = some o) : Nx prog w cls RY σ s σ H { s with heap := h', toks := t } := by
 have G : bM σ s.heap σ h' := ⟨⟨[], by simp [Tk.add_nil]⟩, fun b o u' e => k b o e⟩
 exact ⟨G, ⟨fun b o e => k b o (S.keep b o e), S.len, S.fresh, S.nodup, fun a ha => let ⟨ob, e⟩ := S.pvs a ha; ⟨ob, k _ _ e⟩, fun i a o e1 e2 => (S.objs i a o e1 e2).grow G fun u' e => k _ _ e⟩, rfl, rfl⟩
theorem OF {tg : List Nat} {y : V} {R3 : Loc} (e : oo tg y loc = some R3) : ∃ l, y = .tup l /\ l.length = tg.length /\ R3 = gG tg l loc :=
 rA e fun l e1 e => bT e fun q e => ⟨l, e1, q, (aC e).symm⟩
theorem yE {es : List Expr} {l : List Nat} {a : Nat} {p : aJ} {y : V} {v : aa} {R3 : Loc} {Q : Unit -> ae -> Prop} (hA : A.handled = none) (he : aS (jV c) es = some l) (S9 : ∀ i ∈ l, lo <= i) (e : oo l y loc = some R3) (O : cN env c P lo σ)
  (R : aA env c loc σ s.heap) (S : aq prog w cls RY σ H s.heap) (r : VR σ s.heap y v) (h : ∀ s', aX prog w cls RY P σ s σ H s' -> aA env c R3 σ s'.heap -> Q () s') : af (am prog w) A (assign (.Tuple es a p) env v) Q E s := by
 obtain ⟨vs, e1, hz, e2⟩ := OF e
 rw [e1] at r
 rw [e2] at h
 obtain ⟨ad, items, e3, nad, ht, ln, rr⟩ := r
 rw [e3]
 obtain ⟨q1, q2⟩ := E5 (env := env) he
 refine Qd hA ht (by rw [q1, rr.size, hz, my he]) q2 fun h' hx => ?_
 have K : Nx prog w cls RY σ s σ H { s with heap := h', toks := s.toks } := Nx.kept S fun b o e => hx b o (cB (dT e)) e
 refine Nh es l vs items.toList loc _ Q he S9 hz O (R.grow K.grow) K.sim (rr.grow K.grow) fun s2 N2 R2 => h s2 ((K.toP S O.sub).trans N2) R2
theorem lQ {α : Type} [BEq α] [LawfulBEq α] {l : List α} {a : α} {i : Nat} (h : l.idxOf? a = some i) : l[i]? = some a := by
 unfold List.idxOf? at h
 obtain ⟨h1, h2, _⟩ := Qe.mp h
 rw [bR h1]
 exact congrArg some (beq_iff_eq.mp h2)
theorem L6 {b : Expr} (h : mq b = none) (l u st : Option Expr) (q : aJ) : b ≠ .Slice l u st q := fun e => aD (r := (l, u, st)) (h.symm.trans (congrArg mq e))
theorem zj {k : Nat} {e : Expr} {t : Tg} {G : Prop} (h : fH k c e = some t) (g1 : ∀ x p i, e = .Name x p -> sq c x = some i -> .name i = t -> G) (g2 : ∀ es a p l, e = .Tuple es a p -> aS (jV c) es = some l -> .names l = t -> G)
  (g3 : ∀ o a p o' i, e = .Attribute o a p -> ay k c false o = some o' -> dE.idxOf? a = some i -> .attr o' i = t -> G) (g4 : ∀ a b p a' b', e = .Subscript a b p -> (∀ l u st q, b ≠ .Slice l u st q) -> ay k c false a = some a' -> ay k c false b = some b' -> .sub a' b' = t -> G) : G := by
 have key : ∀ e0, e = e0 -> fH k c e0 = some t -> G := fun e0 he h => by
  cases e0 with
  | Name x p => exact bd h fun i => g1 x p i he
  | Tuple es a p => exact bd h fun l => g2 es a p l he
  | Attribute o a p => exact bT h fun u' h => bv h fun o' h1 h => bd h fun i h2 e => g3 o a p o' i he h1 h2 e
  | Subscript a b p => exact iy h (fun u' u' h => aD h) fun hb h => bv h fun a' h1 h => bd h fun b' h2 e => g4 a b p a' b' he (L6 hb) h1 h2 e
  | _ => exact aD h
 exact key e rfl h
theorem Gf {u x : V} {k : Nat} {H1 H' : AH} {G : Prop} (h : iZ H1 u k x = some H') (g : ∀ i c j m, u = .ref i -> ag H1 i = some (.inst c j) -> ag H1 j = some (.attrs m) -> H1.set j (.attrs (m.set k (some x))) = H' -> G) : G :=
 uW h fun i e1 h => zm h fun c j e2 h => BO h fun m e3 h => g i c j m e1 e2 e3 (aC h)
theorem KG {u w x : V} {H1 H' : AH} {G : Prop} (h : gL H1 u w x = some H') (g : ∀ i k, u = .ref i -> w = .int k -> gL H1 (.ref i) (.int k) x = some H' -> G) : G :=
 uW h fun i e1 h' => fO h' fun k e2 u' => g i k e1 e2 (e1 ▸ e2 ▸ h)
section
variable (B : ∀ c, c < 2 -> jS cls RY c) {n k : Nat} {ev : M.Tactic.E -> Loc -> AH -> Option (V × AH)} (ih : SE prog w cls RY ev n) {y : V} {v : aa} {R3 : Loc} {Q : Unit -> ae -> Prop} (rm : aR A n)
  (O : cN env c P 0 σ) (R : aA env c loc σ s.heap) (S : aq prog w cls RY σ H s.heap) (r : VR σ s.heap y v) (h : ∀ RZ s', aX prog w cls RY P σ s RZ H' s' -> aA env c R3 RZ s'.heap -> Q () s')
include B ih rm O R S r h
theorem JN {o : Expr} {o' : M.Tactic.E} {a : ac} {i : Nat} {p : aJ} (h1 : ay k c false o = some o') (h2 : dE.idxOf? a = some i) (R9 : store ev (.attr o' i) y loc H = some (R3, H')) : af (am prog w) A (assign (.Attribute o a p) env v) Q E s := by
 refine store_attr R9 fun u1 H1 h3 e el => Gf e fun ri ci j m e1 hi hj e2 => ?_
 rw [e1] at h3
 show af (am prog w) A (do
  let ov <-iR [v] (eval o env)
  tJ p.atName
  iR [v, ov] (setAttr ov a v)
  release [v, ov] []) Q E s
 refine ah (dS (ih k c false o o' loc H _ H1 h1 h3 A env σ s rm R S _ _ fun R6 s1 u N1 r1 => ?_))
 obtain ⟨ad, ha, e3⟩ := r1
 rw [e3]
 refine ah (m7 (ah (dS (D2 B N1.sim ha hi hj (lQ h2) (r.grow N1.grow) fun s2 N2 => wpAny_release' ?_))))
 have N := N1.trans N2
 exact h R6 s2 ((e2 ▸ N).toP S O.sub) (el ▸ R.grow N.grow)
omit B in
theorem HS {a b : Expr} {a' b' : M.Tactic.E} {p : aJ} (h1 : ay k c false a = some a') (h2 : ay k c false b = some b') (hb : ∀ l u st q, b ≠ .Slice l u st q) (R9 : store ev (.sub a' b') y loc H = some (R3, H')) : af (am prog w) A (assign (.Subscript a b p) env v) Q E s := by
 refine Iz R9 fun u1 w1 H1 H2 h4 h5 e el => KG e fun ri ki e1 e2 e => ?_
 rw [e1] at h4
 rw [e2] at h5
 rw [assign_Subscript]
 refine ah (dS (ih k c false a a' loc H _ H1 h1 h4 A env σ s rm R S _ _ fun R6 s1 u N1 r1 => ?_))
 refine ah (dS (ih k c false b b' loc H1 _ H2 h2 h5 A env R6 s1 rm (R.grow N1.grow) N1.sim _ _ fun Sf s2 u2 N2 r2 => ?_))
 obtain ⟨ad, ha, e3⟩ := r1.grow N2.grow
 obtain ⟨tk, e4⟩ := r2
 have N := N1.trans N2
 have Sk : ∀ rl, af (am prog w) A (do
      tJ p
      iR [v, .ref ad, .int ki tk] (setItem (.ref ad) (.int ki tk) v)
      release rl []) Q E s2 := fun rl =>
  ah (m7 (ah (dS (K6 N2.sim ha (r.grow N.grow) e fun s3 N3 => wpAny_release' (h Sf s3 ((N.trans N3).toP S O.sub) (el ▸ R.grow (N.trans N3).grow))))))
 rw [e3, e4]
 exact Sk _
theorem wT {e : Expr} {t : Tg} (Sb : fH k c e = some t) (R9 : store ev t y loc H = some (R3, H')) : af (am prog w) A (assign e env v) Q E s :=
 zj Sb (fun x p i ee h1 e1 => by
  rw [<-e1] at R9
  rw [ee]
  obtain ⟨ht, hk⟩ := rO h1
  exact vT R9 fun e1 e2 => xl (qp ht hk (dZ _) O R S r fun s1 N1 R1 => h σ s1 (e2 ▸ N1) (e1 ▸ R1)))
 (fun es a p l ee h1 e1 => by
  rw [<-e1] at R9
  rw [ee]
  exact L7 R9 fun h2 e2 => yE rm.handled h1 (fun u' u' => dZ _) h2 O R S r fun s1 N1 R1 => h σ s1 (e2 ▸ N1) R1)
 (fun o a p o' i ee h1 h2 e1 => by rw [ee]; exact JN B ih rm O R S r h h1 h2 (e1 ▸ R9))
 fun a b p a' b' ee hb h1 h2 e1 => by rw [ee]; exact HS ih rm O R S r h h1 h2 hb (e1 ▸ R9)
end
end
end
section
theorem IJ (l : ak) (xs : Array aa) (n : Nat) (b : ak) (ob : de) (ys : Array aa) (n2 : Nat) (hc : ob.cls = .type "list") (hd : ob.data = .seq ys n2) (hz : xs.size + ys.size <= 10000) :
  Meets (gX.«list.extend» ⟨[.ref l, .ref b], []⟩) (fun u' R s => s.heap.get? l = some { cls := .type "list", dict := none, data := .seq xs n, slots := #[] } /\ s.heap.get? b = some ob /\ R (.ok (.ret Value.none)) { s with heap := s.heap.update l (eS fun x => x ++ ys) }) :=
 .of_wp fun prog w A R s h => by
  obtain ⟨hp, g, d, tk, os⟩ := s
  obtain ⟨hl, hb, h⟩ := h
  obtain ⟨c2, d2, da2, U6⟩ := ob
  simp only at hc hd
  subst hc hd
  have k1 : ¬(!xs.isEmpty && Qf (xs.size + ys.size)) = true := by
   unfold Qf
   have : ¬ (xs.size + ys.size > fv) := by rw [cQ]; trivial
   simp [this]
  have k2 : xs.size <= fv := by rw [cQ]; trivial
  have k3 : (xs ++ ys).size <= fv + 1 := by rw [Array.size_append, cQ]; trivial
  have f3 := RS
  wp_walk using (wpAny_updateSeq hl rfl (hz := k2) (_hz' := k3)), wpAny_loadPart' hl, wpAny_loadPart' hb
  exact ⟨_, rfl, h⟩
end
section
section
variable {prog : aG} {w : aE} {cls : aZ} {RY : ao} {A : bm} {E : aa -> ae -> Prop} {σ : Tk} {s : ae} {H H' : AH} {env : bH} {c : TC} {loc : Loc}
theorem HM {l : List V} {vs : Array aa} {t : Bool} {h' : ao} {tk : Nat} {Q : aa -> ae -> Prop} (S : aq prog w cls RY σ H s.heap) (r : an σ s.heap l vs.toList) (hl : l.length < 100000) (k : ∀ b o, s.heap.get? b = some o -> h'.get? b = some o)
  {a : ak} (ha : s.heap.objs.size <= a) (hp : h'.PlainList a vs) (h : ∀ RZ s' v, Nx prog w cls RY σ s RZ (bh H t l).2 s' -> VR RZ s'.heap (bh H t l).1 v -> Q v s') :
  Q (.ref a) { s with heap := h', toks := tk } := by
 obtain ⟨n, e⟩ := id hp
 have SV := dT e
 have z : s.heap.objs.size <= h'.objs.size := cY ha (j5 SV)
 cases t with
 | false =>
  have N : Nx prog w cls RY σ s σ H { s with heap := h', toks := tk } := Nx.of S k rfl rfl
  refine h σ _ _ N ?_
  simp only [VR, bh]
  exact ⟨_, vs, rfl, S.new ha, ⟨_, e, rfl, n, rfl⟩, hl, r.grow N.grow, .inr ⟨n, e⟩⟩
 | true =>
  have hn : s.heap.get? a = none := g0 ha
  have G : bM σ s.heap (σ.add [a]) h' := ⟨⟨[a], rfl, fun b hb => by rw [aN.mp hb]; exact hn⟩, fun b o u' e => k b o e⟩
  have N : Nx prog w cls RY σ s (σ.add [a]) (H ++ [.list l]) { s with heap := h', toks := tk } :=
   Nx.track S hn k ⟨vs, ⟨n, e⟩, hl, r.grow G⟩ rfl rfl
  refine h _ _ _ N ?_
  simp only [VR, bh]
  exact ⟨_, by rw [<-S.len]; simp [Tk.add], rfl⟩
noncomputable def o8 : Bi -> aa
 | .len => .builtin "len"
 | .max => .builtin "max"
 | .min => .builtin "min"
 | .tuple => .type "tuple"
 | .list => .type "list"
 | .listT => .type "list"
 | .sorted => .builtin "sorted"
 | .sortedSet => .builtin "sorted"
theorem Kf {v : V} {l : List V} (e : dF H v = some l) : v = .tup l \/ bK H v = some l := by
 cases v with
 | tup q => exact .inl (congrArg V.tup (aC e))
 | _ => exact .inr e
section
variable {v z : V} {u : aa} {l : List V} {Q : aa -> ae -> Prop} (S : aq prog w cls RY σ H s.heap) (r1 : VR σ s.heap v u) (e2 : dF H v = some l)
include S r1 e2
theorem uB {G : Prop} (g : ∀ a us, u = .ref a -> v = .tup l -> oF s.heap a us -> l.length < 100000 -> an σ s.heap l us.toList -> G) (k : ∀ a us, u = .ref a -> s.heap.IsList a us -> l.length < 100000 -> an σ s.heap l us.toList -> G) : G := by
 rcases Kf e2 with e | e4
 ·rw [e] at r1
  obtain ⟨a, us, eu, _, ht, ln, rr⟩ := r1
  exact g a us eu e ht ln rr
 ·obtain ⟨a, us, eu, hl, ln, rr⟩ := jT S r1 e4
  exact k a us eu hl ln rr
theorem Ka (h : ∀ RZ s' v, Nx prog w cls RY σ s RZ H s' -> VR RZ s'.heap (.int l.length) v -> Q v s') : af (am prog w) A (call (.builtin "len") [u]) Q E s :=
 uB S r1 e2 (fun a us eu u' ht ln rr => by
  rw [eu]
  exact len_tuple ht (by have := rr.size; trivial) (h σ _ _ (Nx.tok S _) ⟨_, by rw [rr.size]⟩)) fun a us eu hl ln rr => by
   rw [eu]
   exact Calls.call_len_list hl (by have := rr.size; trivial) (h σ _ _ (Nx.tok S _) ⟨_, by rw [rr.size]⟩)
theorem Ga (h : ∀ RZ s' v, Nx prog w cls RY σ s RZ H s' -> VR RZ s'.heap (.tup l) v -> Q v s') : af (am prog w) A (call (.type "tuple") [u]) Q E s :=
 uB S r1 e2 (fun a us eu ev ht ln rr => by
  rw [ev] at r1
  rw [eu] at r1 ⊢
  exact call_tuple_tup ht (h σ _ _ (Nx.refl S) r1)) fun a us eu hl ln rr => by
   rw [eu]
   refine call_tuple_list hl (fun h' k => ?_) (by rw [cQ]; exact j5 (cH (rr.size ▸ ln) (by decide)))
   have N : Nx prog w cls RY σ s σ H { s with heap := h' } := Nx.kept (t := s.toks) S k
   exact yl N.sim (rr.grow N.grow) ln fun RZ s' v N' r => h RZ s' v (N.trans N') r
theorem zk {t : Bool} (h : ∀ RZ s' v, Nx prog w cls RY σ s RZ (bh H t l).2 s' -> VR RZ s'.heap (bh H t l).1 v -> Q v s') : af (am prog w) A (call (.type "list") [u]) Q E s := by
 have Sk : ∀ {a : ak} {o : de} {T : String} {us : Array aa} {n : Nat}, T = "list" \/ T = "tuple" -> s.heap.get? a = some o -> o.cls = .type T -> o.data = .seq us n -> l.length < 100000 -> an σ s.heap l us.toList -> af (am prog w) A (call (.type "list") [.ref a]) Q E s :=
  fun {a o T us n} hT ho hc hd ln rr =>
   call_list_seq a hT ho hc hd (fun h' c' k e4 => HM (t := t) (tk := s.toks) S rr ln k (bq _) ⟨c', e4⟩ h) (by rw [cQ]; exact j5 (cH (rr.size ▸ ln) (by decide)))
 refine uB S r1 e2 (fun a us eu u' ht ln rr => ?_) fun a us eu hl ln rr => ?_
 ·rw [eu]; obtain ⟨o, ho, hc, n, hd⟩ := ht; exact Sk (.inr rfl) ho hc hd ln rr
 ·rw [eu]; obtain ⟨o, ho, hc, n, hd⟩ := hl; exact Sk (.inl rfl) ho hc hd ln rr
end
section
variable {vs : List V} {R8 : List aa} {z : V} {Q : aa -> ae -> Prop} (S : aq prog w cls RY σ H s.heap) (r : an σ s.heap vs R8) (h : ∀ RZ s' v, Nx prog w cls RY σ s RZ H' s' -> VR RZ s'.heap z v -> Q v s')
include r in
theorem rR {g : aa -> d8 aa} {f : V -> Option (V × AH)} (e : one vs f = some (z, H')) (k : ∀ v u, VR σ s.heap v u -> f v = some (z, H') -> af (am prog w) A (g u) Q E s) : ∃ u, R8 = [u] /\ af (am prog w) A (g u) Q E s :=
 nI e fun v e1 e => by
  rw [e1] at r
  obtain ⟨u, q, e2, r1, e3⟩ := r
  exact ⟨u, by rw [e2, show q = [] from e3], k v u r1 e⟩
include S r h in
theorem Bm {g : aa -> aa -> d8 aa} {f : Int -> Int -> Int} (e : (two vs fun a b => oI a fun x => oI b fun y => some (V.int (f x y), H)) = some (z, H')) (k : ∀ x y t t' Q, (∀ h' tk, (∀ b o, s.heap.get? b = some o -> h'.get? b = some o) -> ∀ v, (∃ t, v = Value.int (f x y) t) -> Q v { s with heap := h', toks := tk }) -> af (am prog w) A (g (.int x t) (.int y t')) Q E s) : ∃ u u', R8 = [u, u'] /\ af (am prog w) A (g u u') Q E s :=
 qw e fun a b e1 e => fO e fun x e2 e => fO e fun y e3 e => fQ e fun e4 e5 => by
  rw [e1, e2, e3] at r
  obtain ⟨u, q, e6, ⟨t, e7⟩, u', q', e8, ⟨t', e9⟩, e10⟩ := r
  refine ⟨u, u', by rw [e6, e8, show q' = [] from e10], ?_⟩
  rw [e7, e9]
  exact k x y t t' Q fun h' tk kk v hv => h σ _ _ (e5 ▸ Nx.kept S kk) (e4 ▸ hv)
end
theorem Ax {c : Prop} [Decidable c] {a b : Int} {t t' : Tok} : ∃ q, (if c then Value.int a t else Value.int b t') = Value.int (if c then a else b) q := by
 split
 ·exact ⟨_, rfl⟩
 ·exact ⟨_, rfl⟩
theorem I0 {b : Bi} {vs : List V} {R8 : List aa} {z : V} {Q : aa -> ae -> Prop} (hb : b ≠ .sorted /\ b ≠ .sortedSet) (hA : A.handled = none) (S : aq prog w cls RY σ H s.heap) (r : an σ s.heap vs R8)
  (e : dq H b vs = some (z, H')) (h : ∀ RZ s' v, Nx prog w cls RY σ s RZ H' s' -> VR RZ s'.heap z v -> Q v s') : af (am prog w) A (call (o8 b) R8) Q E s := by
 have Sk : ∀ {x : V × AH}, x = (z, H') -> ∀ RZ s' v, Nx prog w cls RY σ s RZ x.2 s' -> VR RZ s'.heap x.1 v -> Q v s' := fun {x} e => by subst e; exact h
 cases b with
 | len =>
  obtain ⟨u, e1, k⟩ := rR r (g := fun u => call (.builtin "len") [u]) e fun v u r1 e => bd e fun l e2 e => Ka S r1 e2 (E := E) (A := A) (Sk e)
  rw [e1]; exact k
 | max =>
  obtain ⟨u, u', e1, k⟩ := Bm S r h (g := fun u u' => call (.builtin "max") [u, u']) e fun x y t t' Q hQ => max_two_ints hA fun h' tk k => hQ h' tk k _ Ax
  rw [e1]; exact k
 | min =>
  obtain ⟨u, u', e1, k⟩ := Bm S r h (g := fun u u' => call (.builtin "min") [u, u']) e fun x y t t' Q hQ => min_two_ints hA fun h' tk k => hQ h' tk k _ Ax
  rw [e1]; exact k
 | tuple =>
  obtain ⟨u, e1, k⟩ := rR r (g := fun u => call (.type "tuple") [u]) e fun v u r1 e => bd e fun l e2 e => Ga S r1 e2 (E := E) (A := A) (Sk e)
  rw [e1]; exact k
 | list =>
  obtain ⟨u, e1, k⟩ := rR r (g := fun u => call (.type "list") [u]) e fun v u r1 e => bd e fun l e2 e => zk (t := false) S r1 e2 (E := E) (A := A) (Sk e)
  rw [e1]; exact k
 | listT =>
  obtain ⟨u, e1, k⟩ := rR r (g := fun u => call (.type "list") [u]) e fun v u r1 e => bd e fun l e2 e => zk (t := true) S r1 e2 (E := E) (A := A) (Sk e)
  rw [e1]; exact k
 | sorted => exact absurd rfl hb.1
 | sortedSet => exact absurd rfl hb.2
theorem LF {x : V} (h : x.isInt = true) : ∃ i, x = .int i := by
 cases x with
 | int i => exact ⟨i, rfl⟩
 | _ => exact aY h
theorem GW : ∀ {l : List V} {us : List aa}, l.all V.isInt = true -> an σ s.heap l us -> ∃ ns, IntsAre us ns := by
 intro l
 induction l with
 | nil =>
  intro us _ r
  rw [show us = [] from r]; exact ⟨_, .nil⟩
 | cons x l iH =>
  intro us ha r
  obtain ⟨h1, h2⟩ := bk.mp ha
  obtain ⟨i, e⟩ := LF h1
  rw [e] at r
  obtain ⟨v, us, e1, ⟨t', e2⟩, r2⟩ := r
  obtain ⟨ns, q⟩ := iH h2 r2
  rw [e1, e2]
  exact ⟨_, .cons _ _ q⟩
theorem Fq {k : Int} : ∀ {l q : List V} {us : List aa}, i8 k l = some q -> an σ s.heap l us →
  ∃ j, ∃ hj : j < us.length, an σ s.heap q (us.eraseIdx j) /\ isInt k us[j] = true /\ (∀ m (hm : m < us.length), m < j -> isInt k us[m] = false) := by
 intro l
 induction l with
 | nil =>
  intro q us e r
  exact aD e
 | cons x l iH =>
  intro q us e r
  refine fO e fun i e1 e => ?_
  rw [e1] at r
  obtain ⟨v, us, e2, ⟨t', e3⟩, r2⟩ := r
  rw [e2, e3]
  refine ew e (fun z e => ⟨0, tn _, aC e ▸ r2, decide_eq_true z, fun m hm h => absurd h (CV _)⟩) fun z e => bd e fun q' e1 e => ?_
  obtain ⟨j, hj, g3, g4, g5⟩ := iH e1 r2
  refine ⟨j + 1, xk hj, ?_, g4, fun m hm h => ?_⟩
  ·rw [Qg, <-e]
   exact ⟨_, _, rfl, ⟨t', rfl⟩, g3⟩
  ·cases m with
   | zero => exact decide_eq_false z
   | succ m => exact g5 m (Qh hm) (Qh h)
theorem DV {k : Int} : ∀ {l q : List V}, i8 k l = some q -> q.length <= l.length := by
 intro l
 induction l with
 | nil =>
  intro q e
  exact aD e
 | cons x l iH =>
  intro q e
  exact fO e fun i u' e => ew e (fun u' e => aC e ▸ io _) fun u' e => bd e fun q' e1 e => e ▸ mK (iH e1)
noncomputable def wo : Nat -> String
 | 0 => "list.append"
 | 1 => "list.extend"
 | 2 => "list.pop"
 | _ => "list.remove"
noncomputable def uF : Nat -> String
 | 4 => "dict.setdefault"
 | _ => "dict.get"
theorem Ab {us : Array aa} {j : Nat} : (us.eraseIdxIfInBounds j).toList = us.toList.eraseIdx j := by
 obtain ⟨l⟩ := us
 simp
section
variable {i m : Nat} {a : ak} {l : List V} {vs : List V} {R8 : List aa} {z : V} {Q : aa -> ae -> Prop}
theorem an.one (e : vs = [z]) (r : an σ s.heap vs R8) : ∃ u, R8 = [u] /\ VR σ s.heap z u := by
 rw [e] at r
 obtain ⟨u, q, e2, r1, e3⟩ := r
 exact ⟨u, by rw [e2, show q = [] from e3], r1⟩
section
variable (S : aq prog w cls RY σ H s.heap) (ha : σ.tr[i]? = some a) (hi : ag H i = some (.list l)) (h : ∀ RZ s' v, Nx prog w cls RY σ s RZ H' s' -> VR RZ s'.heap z v -> Q v s')
include S ha hi h
theorem Pi {x : V} {u : aa} (r1 : VR σ s.heap x u) (e : (if l.length < 4096 then some (V.none, H.set i (.list (l ++ [x]))) else none) = some (z, H')) : af (am prog w) A (call (.builtin "list.append") [.ref a, u]) Q E s :=
 bT e fun SV e => fQ e fun e1 e2 => by
  obtain ⟨us, ⟨n, eo⟩, ln, rr⟩ := S.objs i a _ ha hi
  have hz := rr.size
  refine xm Qj ⟨_, eo, rfl⟩ PySem.F.entry_list_append (PySem.F.args_list_append_2 _ _) (PySem.list_append a us n u (by rw [cQ]; trivial)) ⟨eo, ?_⟩
  exact h σ _ _ (e2 ▸ qA (g := l ++ [x]) S ha eo (fun x => x.push u) (by rw [dg]; exact cH (xk SV) (by decide)) (by rw [CW]; exact rr.append (an.cons r1 an.nil))) (e1 ▸ rfl)
theorem Ie {x : V} {u : aa} {q : List V} (r1 : VR σ s.heap x u) (e1 : bK H x = some q) (e : (if l.length + q.length < 4096 then some (V.none, H.set i (.list (l ++ q))) else none) = some (z, H')) : af (am prog w) A (call (.builtin "list.extend") [.ref a, u]) Q E s :=
 bT e fun SV e => fQ e fun e4 e5 => by
  obtain ⟨us, ⟨n, eo⟩, ln, rr⟩ := S.objs i a _ ha hi
  have hz := rr.size
  obtain ⟨b, ys, e2, ⟨ob, hob, VA, n2, UY⟩, _, ry⟩ := jT S r1 e1
  have hy := ry.size
  rw [e2]
  refine xm Qk ⟨_, eo, rfl⟩ PySem.F.entry_list_extend (PySem.F.args_list_extend_2 _ _) (IJ a us n b ob ys n2 VA UY (by trivial)) ⟨eo, hob, ?_⟩
  exact h σ _ _ (e5 ▸ qA (g := l ++ q) S ha eo (fun x => x ++ ys) (by rw [dg]; exact cH SV (by decide)) (by rw [CM]; exact rr.append ry)) (e4 ▸ rfl)
theorem Lr (e : (l.getLast?.map fun v => (v, H.set i (.list l.dropLast))) = some (z, H')) : af (am prog w) A (call (.builtin "list.pop") [.ref a]) Q E s :=
 bd e fun x hv e => fQ (congrArg some e) fun e1 e2 => by
  obtain ⟨us, ⟨n, eo⟩, ln, rr⟩ := S.objs i a _ ha hi
  have hz := rr.size
  have hl : l[l.length - 1]? = some x := by rw [<-List.getLast?_eq_getElem?]; exact hv
  obtain ⟨u, hu, r1⟩ := rr.get hl
  have ZV : us[us.size - 1]? = some u := by rw [hz, <-fy]; exact hu
  have Tn : us.size <= fv := by rw [cQ]; trivial
  refine xm Qm ⟨_, eo, rfl⟩ PySem.F.entry_list_pop (PySem.F.args_list_pop_1 _) (MeetsSeq.list_pop_last a us n u ZV Tn) ⟨eo, ?_⟩
  have N := qA (g := l.dropLast) S ha eo (fun xs => xs.eraseIdxIfInBounds (us.size - 1)) (cL (by rw [List.length_dropLast]; exact mI _ _) ln) (by
   rw [Ab]
   have : us.toList.eraseIdx (us.size - 1) = us.toList.take (l.length - 1) := by
    rw [hz, List.eraseIdx_eq_take_drop_succ, CR (by rw [mS]; trivial), im]
   rw [this, List.dropLast_eq_take]
   exact rr.take _)
  exact h σ _ _ (e2 ▸ N) (e1 ▸ r1.grow N.grow)
theorem En {k : Int} {t : Tok} (SA : l.all V.isInt = true) (e : ((i8 k l).map fun q => (V.none, H.set i (.list q))) = some (z, H')) : af (am prog w) A (call (.builtin "list.remove") [.ref a, .int k t]) Q E s :=
 bd e fun q e1 e => fQ (congrArg some e) fun e2 e3 => by
  obtain ⟨us, ⟨n, eo⟩, ln, rr⟩ := S.objs i a _ ha hi
  have hz := rr.size
  obtain ⟨ns, UI⟩ := GW SA rr
  obtain ⟨j, hj, g1, g2, g3⟩ := Fq e1 rr
  have TY : j < us.size := by rw [<-mS]; exact hj
  refine xm Qp ⟨_, eo, rfl⟩ PySem.F.entry_list_remove (PySem.F.args_list_remove_2 _ _)
   (MeetsSeq.list_remove a us n (.int k t) (isInt k) (fun y hy => eq_isInt k t UI y (by simpa using hy)) j TY (by rw [Qq] at g2; exact g2) (fun m hm h => by have := g3 m (by rw [mS]; exact hm) h; rw [Qq] at this; exact this) (by rw [cQ]; trivial)) ⟨eo, ?_⟩
  exact h σ _ _ (e3 ▸ qA (g := q) S ha eo (fun xs => xs.eraseIdxIfInBounds j) (cL (DV e1) ln) (by rw [Ab]; exact g1)) (e2 ▸ rfl)
theorem Of (r : an σ s.heap vs R8) (e : dB H i l m vs = some (z, H')) : af (am prog w) A (call (.builtin (wo m)) (.ref a :: R8)) Q E s := by
 refine ew e (fun hm e => nI e fun x e1 e => ?_) fun u' e => ew e (fun hm e => nI e fun x e1 e => bv e fun q e2 e => mu e fun u' e => ?_) fun u' e => ew e (fun hm e => bT e fun e1 e => ?_) fun u' e => bT e fun hm e => nI e fun x e1 e => fO e fun k e2 e => bT e fun SA e => ?_
 ·obtain ⟨u, e2, r1⟩ := an.one e1 r
  rw [hm, e2]; exact Pi S ha hi h r1 e
 ·obtain ⟨u, e3, r1⟩ := an.one e1 r
  rw [hm, e3]; exact Ie S ha hi h r1 e2 e
 ·rw [e1] at r
  rw [hm, show R8 = [] from r]; exact Lr S ha hi h e
 ·obtain ⟨u, e3, r1⟩ := an.one e1 r
  rw [e2] at r1
  obtain ⟨t, e4⟩ := r1
  rw [hm, e3, e4]; exact En S ha hi h SA e
end
theorem cG.none {h : ao} : ∀ {l : List (Int × V)} {kvs : List (Int × aa)}, cG σ h l kvs -> ∀ {k : Int}, dictAt l k = Option.none -> mW kvs k = Option.none := by
 intro l
 induction l with
 | nil =>
  intro _ q k e
  rw [show _ = [] from q]; rfl
 | cons Se r iH =>
  obtain ⟨a, b⟩ := Se
  intro kvs q k e
  obtain ⟨v, q', e1, r1, r2⟩ := q
  rw [e1, zB]
  replace e : (if a = k then some b else dictAt r k) = Option.none := e
  by_cases z : a = k
  ·rw [if_pos z] at e; exact nomatch e
  ·rw [if_neg z] at e ⊢; exact iH r2 e
section
variable {l : List (Int × V)} (S : aq prog w cls RY σ H s.heap) (ha : σ.tr[i]? = some a) (hi : ag H i = some (.dict l)) (h : ∀ RZ s' v, Nx prog w cls RY σ s RZ H' s' -> VR RZ s'.heap z v -> Q v s')
include S ha hi h
theorem Ph {k : Int} {t : Tok} {x : V} {u : aa} (r1 : VR σ s.heap x u) (e : kz (dictAt l k) (fun w => some (w, H)) (if l.length < 4096 then some (x, H.set i (.dict (dictPut l k x))) else none) = some (z, H')) : af (am prog w) A (call (.builtin "dict.setdefault") [.ref a, .int k t, u]) Q E s := by
 obtain ⟨kvs, hd, lo, ln, rr⟩ := S.objs i a _ ha hi
 have hz := rr.length
 generalize hx : dictAt l k = o at e
 refine call_meetsIn Qt hd.typeIs PySem.F.entry_dict_setdefault (PySem.F.args_dict_setdefault_3 _ _ _) (kt_meets_setdefault (lr prog w) a (xh _ _ k t) lo u) ⟨kvs, hd, by rw [cQ]; trivial, fun y hy => ?_, fun hn h' S8 Tq => ?_⟩
 ·cases o with
  | some x =>
   obtain ⟨y', e1, r2⟩ := rr.at hx
   exact fQ e fun e3 e4 => h σ _ _ (e4 ▸ Nx.tok S _) (e3 ▸ aC (e1.symm.trans hy) ▸ r2)
  | none => exact aD (hy.symm.trans (rr.none hx)).symm
 ·cases o with
  | some x =>
   obtain ⟨y', e1, r2⟩ := rr.at hx
   exact aD (hn.symm.trans e1)
  | none =>
   refine bT e fun q e => fQ e fun e3 e4 => ?_
   obtain ⟨_, _, _, _, _, _, _, _, nd⟩ := id hd
   have N := zA (t := s.toks + 1) S ha lo S8 Tq (cL zx (cH (xk q) (by decide))) (rr.put r1 nd)
   exact h σ _ _ (e4 ▸ N) (e3 ▸ r1.grow N.grow)
theorem M7 {k : Int} {t : Tok} {x : V} {u : aa} (r1 : VR σ s.heap x u) (e : some (kz (dictAt l k) (fun w => (w, H)) (x, H)) = some (z, H')) : af (am prog w) A (call (.builtin "dict.get") [.ref a, .int k t, u]) Q E s := by
 obtain ⟨kvs, hd, lo, ln, rr⟩ := S.objs i a _ ha hi
 generalize hx : dictAt l k = o at e
 refine call_meetsIn Qu hd.typeIs PySem.F.entry_dict_get (PySem.F.args_dict_get_3 _ _ _) (meets_dict_get_default (lr prog w) a (xh _ _ k t) lo u) ⟨_, hd.mapOf, ?_⟩
 cases o with
 | some x =>
  obtain ⟨y', e1, r2⟩ := rr.at hx
  refine fQ e fun e3 e4 => h σ _ _ (e4 ▸ Nx.tok S _) ?_
  rw [e1]; exact e3 ▸ r2
 | none =>
  refine fQ e fun e3 e4 => h σ _ _ (e4 ▸ Nx.tok S _) ?_
  rw [rr.none hx]; exact e3 ▸ r1
theorem Ol (r : an σ s.heap vs R8) (e : gQ H i l m vs = some (z, H')) : af (am prog w) A (call (.builtin (uF m)) (.ref a :: R8)) Q E s := by
 have two : ∀ {p q : V} {k : Int}, vs = [p, q] -> p = .int k -> ∃ t u, R8 = [.int k t, u] /\ VR σ s.heap q u := fun {p q k} e e1 => by
  rw [e, e1] at r
  obtain ⟨u, q', e2, ⟨t, e3⟩, u', q'', e4, r1, e5⟩ := r
  exact ⟨t, u', by rw [e2, e3, e4, show q'' = [] from e5], r1⟩
 refine ew e (fun hm e => qw e fun p q e1 e => fO e fun k e2 e => ?_) fun u' e => bT e fun hm e => qw e fun p q e1 e => fO e fun k e2 e => ?_
 ·obtain ⟨t, u, e3, r1⟩ := two e1 e2
  rw [hm, e3]; exact Ph S ha hi h r1 e
 ·obtain ⟨t, u, e3, r1⟩ := two e1 e2
  rw [hm, e3]; exact M7 S ha hi h r1 e
end
end
end
end
section
noncomputable abbrev G := Option (Nat × List V)
def iE (σ : Tk) (h : ao) (ax : ak) (g : G) (l : List V) : Prop :=
 (∃ i, g = some (i, l) /\ σ.tr[i]? = some ax) \/ (g = none /\ ax ∉ σ.all /\ ∃ us, h.IsList ax us /\ an σ h l us.toList)
inductive dM (σ : Tk) (h : ao) (I : ak) (wr : List ak) (g : G) : List V -> Nat -> Bool -> Prop where
 | list {ax l i} : h.IsListIter I ax i -> wr = [I] -> iE σ h ax g l -> dM σ h I wr g l i false
 | tuple {t us l i} : h.IsTupleIter I t i -> wr = [I] -> t ∉ σ.all -> h.IsTuple t us -> an σ h l us.toList -> g = none -> dM σ h I wr g l i false
 | range {a : Int} {n i : Nat} : IsRangeIter h I (a + i) (n - i) 1 -> wr = [I] -> g = none -> dM σ h I wr g ((bQ n).map fun (k : Nat) => V.int (a + (k : Int))) i false
 | enum {it ax l old} {i : Nat} : IsEnum h I it i old -> h.IsListIter it ax i -> wr = [I, it] -> I ≠ it -> iE σ h ax g l -> dM σ h I wr g (l.zipIdx.map fun p => V.tup [.int (p.2 : Int), p.1]) i true
section
variable {prog : aG} {w : aE} {cls : aZ} {RY : ao} {A : bm} {E : aa -> ae -> Prop} {σ RZ : Tk} {s : ae} {H H' : AH} {I : ak} {wr : List ak} {g : G} {l : List V} {i : Nat} {tp : Bool}
theorem iE.grow {h h' : ao} {P : List ak} {ax : ak} (gr : dX P σ h RZ h') (hP : ∀ a ∈ P, a ∈ σ.pv) (L : iE σ h ax g l) : iE RZ h' ax g l := by
 rcases L with ⟨i, e1, e2⟩ | ⟨e1, e2, us, ⟨o, ho, hc, r⟩, q⟩
 ·exact .inl ⟨i, e1, gr.at e2⟩
 ·exact .inr ⟨e1, gr.mem e2 ho, us, ⟨o, gr.keep _ _ (Tk.not_tr e2) (fun q => Tk.not_pv e2 (hP _ q)) ho, hc, r⟩, q.growP gr hP⟩
theorem iE.there {ax : ak} (S : aq prog w cls RY σ H s.heap) (hg : bU g H = true) (L : iE σ s.heap ax g l) : ∃ us, s.heap.IsList ax us /\ an σ s.heap l us.toList := by
 rcases L with ⟨i, rfl, e2⟩ | ⟨rfl, _, us, q⟩
 ·simp only [bU, decide_eq_true_eq] at hg
  obtain ⟨us, ⟨n, e⟩, _, r⟩ := S.objs i ax _ e2 hg
  exact ⟨us, ⟨_, e, rfl, n, rfl⟩, r⟩
 ·exact ⟨us, q⟩
theorem dM.grow {h h' : ao} {P : List ak} (gr : dX P σ h RZ h') (hP : ∀ a ∈ P, a ∈ σ.pv) (ap : ∀ a ∈ wr, a ∉ P /\ a ∉ σ.tr) (W : dM σ h I wr g l i tp) : dM RZ h' I wr g l i tp := by
 have k : ∀ a ∈ wr, ∀ o, h.get? a = some o -> h'.get? a = some o := fun a ha o e => gr.keep a o (ap a ha).2 (ap a ha).1 e
 cases W with
 | list a b c => subst b; exact .list (a.at fun o e => k _ (by simp) _ e) rfl (c.grow gr hP)
 | tuple a b c d e f =>
  subst b
  obtain ⟨o, ho, _⟩ := id d
  have ks : ∀ o, h.get? _ = some o -> h'.get? _ = some o := fun o e => gr.keep _ o (Tk.not_tr c) (fun q => Tk.not_pv c (hP _ q)) e
  exact .tuple (a.at fun o e => k _ (by simp) _ e) rfl (gr.mem c ho) (d.at ks) (e.growP gr hP) f
 | range a b c => subst b; exact .range (k _ (by simp) _ a) rfl c
 | enum a b c d e => subst c; exact .enum (k _ (by simp) _ a) (b.at fun o e => k _ (by simp) _ e) rfl d (e.grow gr hP)
theorem un {target : Expr} {o : de} {n : String} {v : aa} {Q : Unit -> ae -> Prop} (ho : s.heap.get? I = some o) (hc : o.cls = .type n)
  (hn : ["enumerate", "zip", "dict_itemiterator", "dict_reverseitemiterator", "odict_iterator", "itertools.zip_longest", "itertools.pairwise"].contains n = false) (h : Q () s) : af (am prog w) A (xn target (.ref I) v) Q E s := by
 have go : af (am prog w) A (do
   let (.ref r, .ref a) := (Value.ref I, v) | return
   let o <-load r
   match o.cls, o.data with
   | .type n, .fields vs =>
    if ["enumerate", "zip", "dict_itemiterator", "dict_reverseitemiterator", "odict_iterator", "itertools.zip_longest", "itertools.pairwise"].contains n && vs[0]? == some (dO a) then
     rule "for.unpacks-the-owned-tuple"
     updateField r 0 .none
   | _, _ => pure ()) Q E s := by
  cases v <;> try exact av h
  refine ah (xo ho ?_)
  obtain ⟨c, d, da, sl⟩ := o
  simp only at hc
  subst hc
  cases da <;> try exact av h
  dsimp only
  rw [hn]
  simp only [Bool.false_and, cu, if_false]
  exact av h
 cases target <;> first | exact av h | exact go
theorem o7 {P : List ak} {h' : ao} {t : Nat} (S : aq prog w cls RY σ H s.heap) (hP : ∀ a ∈ P, a ∈ σ.pv) (k : ∀ b o, b ∉ P -> s.heap.get? b = some o -> h'.get? b = some o) (own : ∀ b o, b ∈ P -> s.heap.get? b = some o -> ∃ o', h'.get? b = some o') :
  aX prog w cls RY P σ s σ H { s with heap := h', toks := t } :=
 ⟨⟨⟨[], by simp [Tk.add_nil]⟩, fun b o u' nb e => k b o nb e, own⟩, S.poke hP k own, rfl, rfl⟩
noncomputable def fY (e : Expr) : Bool := (lT e).isSome
theorem Kx {t : Expr} (h : fY t = true) : ∃ es a p, t = .Tuple es a p := by
 obtain ⟨es, e⟩ := oK.mp h
 exact rB e fun a p e => ⟨es, a, p, e⟩
theorem BV {x : V} {target : Expr} {Q : Option aa -> ae -> Prop} (W : dM σ s.heap I wr g l i tp) (S : aq prog w cls RY σ H s.heap) (Ua : ∀ a ∈ wr, a ∈ σ.pv) (hg : bU g H = true) (hx : l[i]? = some x) (ht : tp = true -> fY target = true)
  (h : ∀ v s', aX prog w cls RY wr σ s σ H s' -> VR σ s'.heap x v →
   (∀ (Q' : Unit -> ae -> Prop) (E' : aa -> ae -> Prop), (∀ UA, aX prog w cls RY wr σ s' σ H UA -> dM σ UA.heap I wr g l (i + 1) tp -> Q' () UA) -> af (am prog w) A (xn target (.ref I) v) Q' E' s') -> Q (some v) s') :
  af (am prog w) A (g7 (.ref I)) Q E s := by
 have one : ∀ {h' : ao} {t : Nat} {o' : de}, wr = [I] -> oH I s.heap h' -> h'.get? I = some o' -> aX prog w cls RY wr σ s σ H { s with heap := h', toks := t } := fun {h' t o'} e hs ho => by
  subst e
  refine o7 S Ua (fun b o nb e => hs.extBut b o (fun q => nb (by simp [q])) e) (fun b o nb e => ?_)
  rw [aN.mp nb]; exact ⟨o', ho⟩
 cases W with
 | @list ax _ i a b c =>
  obtain ⟨us, hl, r⟩ := c.there S hg
  obtain ⟨v, hv, rv⟩ := r.get hx
  refine wpAny_pyNext_list_item a hl (x := v) (by simpa using hv) fun h' a' hs => ?_
  obtain ⟨o', Th, TN, _⟩ := id a'
  have N := one (t := s.toks) b hs Th
  exact h v _ N (rv.growP N.grow Ua) fun Q' E' hQ => un Th TN (by decide) (hQ _ (aX.refl N.sim) (.list a' b (c.grow N.grow Ua)))
 | @tuple t us _ i a b c d e f =>
  obtain ⟨v, hv, rv⟩ := e.get hx
  refine wpAny_pyNext_tuple_item a d (x := v) (by simpa using hv) fun h' a' hs => ?_
  obtain ⟨o', Th, TN, _⟩ := id a'
  have N := one (t := s.toks) b hs Th
  obtain ⟨ot, hot, _⟩ := id d
  refine h v _ N (rv.growP N.grow Ua) fun Q' E' hQ => un Th TN (by decide) (hQ _ (aX.refl N.sim) (.tuple a' b c (d.at fun o e => ?_) (e.growP N.grow Ua) f))
  exact N.grow.keep _ _ (Tk.not_tr c) (fun q => Tk.not_pv c (Ua _ q)) e
 | @range a n i r b c =>
  have hi : i < n := by
   have := (bG.mp hx).1
   simpa using this
  refine wpAny_pyNext_range_item r (by trivial) fun h' a' hs => ?_
  have N := one (t := s.toks + 1) b hs a'
  have Vc : x = .int (a + i) := by
   rw [cM, Qv hi] at hx
   simpa using hx.symm
  subst Vc
  refine h _ _ N (by simp [VR]) fun Q' E' hQ => un a' rfl (by decide) (hQ _ (aX.refl N.sim) (.range ?_ b c))
  have e1 : a + ((i + 1 : Nat) : Int) = a + (i : Int) + 1 := by push_cast; trivial
  have e2 : (n : Int) - ((i + 1 : Nat) : Int) = (n : Int) - (i : Int) - 1 := by push_cast; trivial
  rw [e1, e2]; exact a'
 | @enum it ax l0 old i a b c d e =>
  obtain ⟨us, hl, r⟩ := e.there S hg
  rw [cM] at hx
  obtain ⟨p, hp, rfl⟩ := oD.mp hx
  have Vf : p.2 = i /\ l0[i]? = some p.1 := by
   rw [List.getElem?_zipIdx] at hp
   obtain ⟨y, hy, rfl⟩ := oD.mp hp
   exact ⟨by simp, hy⟩
  obtain ⟨v, hv, rv⟩ := r.get Vf.2
  refine wpAny_pyNext_enum_item a b hl (x := v) (by simpa using hv) d fun h' ho hit hT Tn hk => ?_
  subst c
  have N : aX prog w cls RY [I, it] σ s σ H { s with heap := h', toks := s.toks + 1 } := by
   refine o7 S Ua (fun b o nb e => hk b o (fun q => nb (by simp [q])) (fun q => nb (by simp [q])) e) (fun b o nb e => ?_)
   rcases aP.mp nb with q | q
   ·rw [q]; exact ⟨_, ho⟩
   ·rw [aN.mp q]; obtain ⟨o', e', _⟩ := hit; exact ⟨o', e'⟩
  have hTn : s.heap.objs.size ∉ σ.all := S.new (bq _)
  have rT : VR σ h' (.tup [.int (p.2 : Int), p.1]) (.ref s.heap.objs.size) := by
   simp only [VR]
   refine ⟨_, _, rfl, hTn, ⟨_, hT, rfl, 0, rfl⟩, by simp, ?_⟩
   simp only [an, VR]
   rw [Vf.1]
   exact ⟨_, _, rfl, ⟨_, rfl⟩, v, [], rfl, rv.growP N.grow Ua, rfl⟩
  refine h _ _ N rT fun Q' E' hQ => ?_
  have WV := ht rfl
  obtain ⟨es, ca, cp, et⟩ := Kx WV
  rw [et]
  refine wpAny_letOwnedTupleGo_enum ho fun h2 WZ Wg => ?_
  have N2 : aX prog w cls RY [I, it] σ { s with heap := h', toks := s.toks + 1 } σ H { s with heap := h2, toks := s.toks + 1 } := by
   refine o7 (s := { s with heap := h', toks := s.toks + 1 }) N.sim Ua (fun b o nb e => Wg.extBut b o (fun q => nb (by simp [q])) e) (fun b o nb e => ?_)
   rcases aP.mp nb with q | q
   ·rw [q]; exact ⟨_, WZ⟩
   ·rw [aN.mp q]; obtain ⟨o', e', _⟩ := hit; exact ⟨o', Wg.extBut _ _ d.symm e'⟩
  refine hQ _ N2 (.enum (old := v) (by push_cast; exact WZ) (hit.extBut Wg.extBut d.symm) rfl d ?_)
  exact (e.grow N.grow Ua).grow N2.grow Ua
theorem yy {Q : Option aa -> ae -> Prop} (hA : A.handled = none) (W : dM σ s.heap I wr g l i tp) (S : aq prog w cls RY σ H s.heap) (hg : bU g H = true) (hi : l.length <= i)
  (h : ∀ h' t, (∀ b o, b ∉ wr -> s.heap.get? b = some o -> h'.get? b = some o) -> Q none { s with heap := h', toks := t }) : af (am prog w) A (g7 (.ref I)) Q E s := by
 cases W with
 | list a b c =>
  obtain ⟨us, hl, r⟩ := c.there S hg
  have := r.size
  exact wpAny_pyNext_list_end hA a hl (by simp; trivial) fun h' hx => h h' s.toks fun b' o nb e => hx b' o (fun q => nb (by rw [b]; simp [q])) e
 | tuple a b c d e f =>
  have := e.size
  exact wpAny_pyNext_tuple_end hA a d (by simp; trivial) fun h' hx => h h' s.toks fun b' o nb e => hx b' o (fun q => nb (by rw [b]; simp [q])) e
 | range r b c =>
  simp only [aM, qR] at hi
  exact wpAny_pyNext_range_end hA r (by trivial) fun h' hx => h h' s.toks fun b' o nb e => hx b' o (fun q => nb (by rw [b]; simp [q])) e
 | enum a b c d e =>
  obtain ⟨us, hl, r⟩ := e.there S hg
  have := r.size
  simp only [aM, List.length_zipIdx] at hi
  exact wpAny_pyNext_enum_end hA a b hl (by simp; trivial) fun h' hx => h h' s.toks fun b' o nb e => hx b' o (fun q => nb (by rw [c]; simp [q])) e
end
end
section
def ix (RY : ao) (f : Nat) (a : ak) : Prop :=
 ∃ (o : de) (fd : xp) (ps : lk) (body : List fZ) (sc : cD), RY.get? a = some o /\ o.data = .func fd /\ iJ[f]? = some (some (ps, body, sc)) /\ fd.body = .stmts body /\ fd.scope = sc ∧
  fd.globals = ij /\ fd.builtins = tE /\ fd.closure = [] /\ RY.CodeRec fd.code fd.qualname ∧
  ∀ (R8 : List aa) (s : ae), R8.length = ps.args.length -> (∀ b o, RY.get? b = some o -> s.heap.get? b = some o) -> BindsTo s fd ⟨R8, []⟩ ((ps.args.map (·.arg)).zip R8)
def nV (RY : ao) (a : ak) : Prop := ∃ o, RY.get? a = some o /\ o.cls = .type "function"
noncomputable def h6 : List (ac × aa) := [("len", .builtin "len"), ("max", .builtin "max"), ("min", .builtin "min"), ("sorted", .builtin "sorted"), ("tuple", .type "tuple"), ("list", .type "list"), ("set", .type "set"), ("range", .type "range"), ("enumerate", .type "enumerate")]
structure sK (cls : aZ) (RY : ao) (mg mb : ac -> Option aa) : Prop where
 glob : RY.Ns ij mg
 blt : RY.Ns tE mb
 miss : ∀ p ∈ h6, mg p.1 = none
 bi : ∀ p ∈ h6, mb p.1 = some p.2
 fn : ∀ n i, gK.idxOf? n = some i -> ∃ a, mg n = some (.ref a) /\ ix RY (if i = 20 then 1 else i) a
 cl : ∀ n i, lY.idxOf? n = some i -> mg n = some (.ref (cls.at_ i))
structure Wd (P : cn) (cls : aZ) (RY : ao) : Prop where
 lim : RY.NoLimit
 B : ∀ c, c < 2 -> jS cls RY c
 names : ∃ mg mb, sK cls RY mg mb
 init : ∀ c f, P.init c = some f -> c < 2 /\ ∃ a, cls.nm c "__init__" = some (.ref a) /\ ix RY f a /\ nV RY a
 meth : ∀ c m f, P.meth c m = some f -> ∃ n a, fI[m]? = some n /\ n ∈ ("pop" : ac) :: fI.drop 6 /\ cls.nm c n = some (.ref a) /\ ix RY f a /\ nV RY a
 fns : sZ = P.fns.map some
 nattr : P.nattr = dE.length
def SC (prog : aG) (w : aE) (cls : aZ) (RY : ao) (cl : Nat -> List V -> AH -> Option (V × AH)) (n : Nat) : Prop :=
 ∀ f vs H v H', cl f vs H = some (v, H') -> ∀ A σ s a R8, ix RY f a -> aR A n -> aq prog w cls RY σ H s.heap -> an σ s.heap vs R8 -> ct prog w cls RY A (call (.ref a) R8) σ s v H'
section
variable {prog : aG} {w : aE} {cls : aZ} {RY : ao} {A : bm} {σ : Tk} {s : ae} {H H' : AH} {P : cn}
variable {n : Nat} {ev : E -> Loc -> AH -> Option (V × AH)} {k : Nat} {c : TC} {loc : Loc} {env : bH}
theorem OG {x : ac} {v : aa} {p : aJ} {Q E : aa -> ae -> Prop} (hg : dY c x = true) (hd : (x == ("__debug__" : ac)) = false) {mg mb : ac -> Option aa} (N : sK cls RY mg mb) (hv : mg x = some v \/ (mg x = none /\ mb x = some v)) (R : aA env c loc σ s.heap) (S : aq prog w cls RY σ H s.heap) (h : Q v s) :
  af (am prog w) A (eval (.Name x p) env) Q E s := by
 have hk : env.scope.kind = .function := R.scope ▸ R.fn
 have hx : env.kindOf x = some .globalImplicit := by
  unfold qN; rw [R.scope]
  simpa [dY] using hg
 refine Calls.Name_function_global hk hx ?_ hd
 rcases hv with hv | ⟨h1, hv⟩
 ·exact Calls.loadGlobal_global (R.glob ▸ N.glob.keeps S.keep) hv h
 ·exact Calls.loadGlobal_builtin (R.glob ▸ N.glob.keeps S.keep) h1 (R.blt ▸ N.blt.keeps S.keep) hv h
theorem ul : ∀ {es : List Expr} {pos : aJ}, es.any bO = false -> (gD pos (fK es env)).any (·.1) = false := by
 intro es
 induction es with
 | nil =>
  intro _ _
  exact rfl
 | cons e r iH =>
  intro pos h
  simp only [tG, jr] at h
  rw [tj h.1]
  show (false || (gD pos (fK r env)).any (·.1)) = false
  rw [iH h.2]; rfl
theorem mz {f : aa} {first : List aa} {es : List Expr} {pos : aJ} {Q E : aa -> ae -> Prop} (Sr : es.any bO = false) (hf : (∃ id, f = .builtin id) \/ (∃ T, f = .type T) \/ ∃ a o fd, f = .ref a /\ s.heap.get? a = some o /\ o.data = .func fd)
  (h : af (am prog w) A (lu (gD pos (fK es env))) (fun vs Sd => (∀ a o, f = .ref a -> s.heap.get? a = some o -> Sd.heap.get? a = some o) /\ af (am prog w) A (call f (first ++ vs)) Q E Sd) E s) :
  af (am prog w) A (xq pos f first (gD pos (fK es env)) []) Q E s := by
 have args : af (am prog w) A (evalArgs f true (gD pos (fK es env)) []) (fun a Sd => a.kw = [] /\ (∀ b o, f = .ref b -> s.heap.get? b = some o -> Sd.heap.get? b = some o) /\ af (am prog w) A (call f (first ++ a.pos)) Q E Sd) E s := by
  cases es with
  | nil =>
   unfold evalArgs
   show af (am prog w) A (lu [] >>= _) _ E s
   refine ah (cZ (show af (am prog w) A (lu []) _ E s from h) (fun vs Sd Sw => ?_) fun u' u' x => x)
   refine ah (av (dS (ah (av (ah (av (av ⟨rfl, Sw⟩)))))))
  | cons e r =>
   simp only [tG, jr] at Sr
   rw [tj Sr.1] at h ⊢
   exact Calls.evalArgs_plain (cZ h (fun vs Sd Sw => ⟨rfl, Sw⟩) fun u' u' x => x)
 rcases hf with ⟨id, rfl⟩ | ⟨T, rfl⟩ | ⟨a, o, fd, rfl, ho, hd⟩
 ·exact Calls.callWith_builtin (ul Sr) (cZ args (fun a Sd Sw => by rw [Sw.1]; exact Sw.2.2) fun u' u' x => x)
 ·exact PySem.callWith_type (ul Sr) (cZ args (fun a Sd Sw => by rw [Sw.1]; exact Sw.2.2) fun u' u' x => x)
 ·exact Calls.callWith_function (cZ args (fun a Sd Sw => ⟨⟨Sw.2.1 _ _ rfl ho, hd⟩, by rw [Sw.1]; exact Sw.2.2⟩) fun u' u' x => x)
theorem mB {x : ac} {p pos : aJ} {es : List Expr} {f : aa} {Q E : aa -> ae -> Prop} (hg : dY c x = true) (hd : (x == ("__debug__" : ac)) = false) {mg mb : ac -> Option aa} (N : sK cls RY mg mb) (hv : mg x = some f \/ (mg x = none /\ mb x = some f)) (R : aA env c loc σ s.heap) (S : aq prog w cls RY σ H s.heap)
  (h : af (am prog w) A (xq pos f [] (gD pos (fK es env)) []) Q E s) : af (am prog w) A (eval (.Call (.Name x p) es [] pos) env) Q E s := by
 rw [arm_eval_Call_Name']
 exact ah (OG hg hd N hv R S h)
set_option tactic.hygienic true in
theorem Km (W : Wd P cls RY) {cl : Nat -> List V -> AH -> Option (V × AH)} (ih : SE prog w cls RY ev n) (ic : SC prog w cls RY cl n) {x : ac} {i : Nat} {t : Bool} {es : List Expr} {Si : List E} {vs : List V} {v : V} {H1 : AH} {p pos : aJ} (hg : dY c x = true) (hd : (x == ("__debug__" : ac)) = false) (Sr : es.any bO = false)
  (hi : gK.idxOf? x = some i) (Sb : aS (ay k c t) es = some Si) (R9 : cW ev Si loc H = some (vs, H1)) (hc : cl (if i = 20 then 1 else i) vs H1 = some (v, H'))
  (rm : aR A n) (R : aA env c loc σ s.heap) (S : aq prog w cls RY σ H s.heap) : ct prog w cls RY A (eval (.Call (.Name x p) es [] pos) env) σ s v H' := fun Q E h => by
 obtain ⟨mg, mb, N⟩ := W.names
 obtain ⟨a, hm, hf⟩ := N.fn x i hi
 obtain ⟨o, fd, ps, body, sc, h1, h3, _⟩ := id hf
 refine mB hg hd N (.inl hm) R S (mz Sr (.inr (.inr ⟨a, o, fd, rfl, S.keep _ _ h1, h3⟩)) ?_)
 refine kQ ih es Si loc H vs H1 Sr Sb R9 A env σ s pos rm R S _ _ fun R6 s1 q N1 r1 => ?_
 refine ⟨fun b ob e _ => ?_, ?_⟩
 ·cases e
  rename_i hb
  rw [S.keep _ _ h1] at hb
  cases hb
  exact N1.sim.keep _ _ h1
 ·rw [kg]
  exact ic _ vs H1 v H' hc A R6 s1 a q hf rm N1.sim r1 Q E fun Sf s2 u N2 r2 => h Sf s2 u (N1.trans N2) r2
theorem rU {x : ac} {i : Nat} {f : aa} (h : dQ.idxOf? x = some i) (hf : ∀ n, dQ[i]? = some n -> (n, f) ∈ h6) {mg mb : ac -> Option aa} (N : sK cls RY mg mb) : mg x = none /\ mb x = some f := by
 have h1 := lQ h
 have h2 := hf x h1
 exact ⟨N.miss _ h2, N.bi _ h2⟩
theorem KC (W : Wd P cls RY) (ih : SE prog w cls RY ev n) {x : ac} {i : Nat} {b : Bi} {t : Bool} {es : List Expr} {Si : List E} {vs : List V} {v : V} {H1 : AH} {p pos : aJ} (hg : dY c x = true) (hd : (x == ("__debug__" : ac)) = false) (Sr : es.any bO = false)
  (hi : dQ.idxOf? x = some i) (hf : ∀ n, dQ[i]? = some n -> (n, o8 b) ∈ h6) (hb : b ≠ .sorted /\ b ≠ .sortedSet) (Sb : aS (ay k c t) es = some Si) (R9 : cW ev Si loc H = some (vs, H1)) (hc : dq H1 b vs = some (v, H'))
  (rm : aR A n) (R : aA env c loc σ s.heap) (S : aq prog w cls RY σ H s.heap) : ct prog w cls RY A (eval (.Call (.Name x p) es [] pos) env) σ s v H' := fun Q E h => by
 obtain ⟨mg, mb, N⟩ := W.names
 refine mB hg hd N (.inr (rU hi hf N)) R S (mz Sr ?_ ?_)
 ·cases b <;> first | exact .inl ⟨_, rfl⟩ | exact .inr (.inl ⟨_, rfl⟩)
 refine kQ ih es Si loc H vs H1 Sr Sb R9 A env σ s pos rm R S _ _ fun R6 s1 q N1 r1 => ?_
 refine ⟨fun a o e => (by cases b <;> cases e), ?_⟩
 rw [kg]
 exact I0 hb rm.handled N1.sim r1 hc fun Sf s2 u N2 r2 => h Sf s2 u (N1.trans N2) r2
theorem Nl (W : Wd P cls RY) {cl : Nat -> List V -> AH -> Option (V × AH)} (ic : SC prog w cls RY cl n) {x : ac} {i f : Nat} {p pos : aJ} (hg : dY c x = true) (hd : (x == ("__debug__" : ac)) = false)
  (hi : lY.idxOf? x = some i) (XV : P.init i = some f) (hc : cl f [.ref H.length] (H ++ [.inst i (H.length + 1), .attrs (fJ P.nattr none)]) = some (.none, H'))
  (rm : aR A (n + 1)) (R : aA env c loc σ s.heap) (S : aq prog w cls RY σ H s.heap) : ct prog w cls RY A (eval (.Call (.Name x p) [] [] pos) env) σ s (.ref H.length) H' := fun Q E h => by
 obtain ⟨mg, mb, N⟩ := W.names
 obtain ⟨TZ, a, hm, hf, oc, VA, Wq⟩ := W.init i f XV
 obtain ⟨o, fd, ps, body, sc, h1, h3, _⟩ := id hf
 have h2 : o.cls = .type "function" := by rw [h1] at VA; cases VA; exact Wq
 have B := W.B i TZ
 refine mB hg hd N (.inl (N.cl x i hi)) R S (callWith_cls0 B.isCls S.keep ?_)
 have X := B.isCls.keeps S.keep
 obtain ⟨nm, q, bs, sn, sub, W7, dd, k0, k1, k2, k3, k5, hC⟩ := X.obj
 obtain ⟨hp, g, dr, t, os⟩ := s
 refine wpAny_call_obj_initFk PySem.F.objNew hC X.ns hm (S.keep _ _ h1) h2 fun h' x' dx Mk => ?_
 obtain ⟨ox, hx, hcx, XP, XZ⟩ := Mk.inst
 have Uw := Mk.dict ox hx
 have XM : h'.Ns1 dx fun u' => none := by
  rcases XZ with ⟨hn0, _⟩ | ⟨d', S8, _, hns', _⟩
  ·rw [hn0] at Uw; cases Uw
  ·obtain rfl := aC (S8.symm.trans Uw); exact hns'
 have SM : dx ≠ x' := by
  rcases XZ with ⟨hn0, _⟩ | ⟨d', S8, hne', _, _⟩
  ·rw [hn0] at Uw; cases Uw
  ·obtain rfl := aC (S8.symm.trans Uw); exact hne'
 have XX : h'.ExactDictFk dx := by
  rcases XZ with ⟨hn0, _⟩ | ⟨d', S8, _, _, hex'⟩
  ·rw [hn0] at Uw; cases Uw
  ·obtain rfl := aC (S8.symm.trans Uw); exact hex'
 have SA : (σ.add [x', dx]).all = σ.all ++ [x', dx] := by simp [Tk.all, Tk.add]
 have G : bM σ hp (σ.add [x', dx]) h' := ⟨⟨[x', dx], rfl, fun b hb => by
  rcases aP.mp hb with e | e
  ·rw [e]; exact Mk.newX
  ·rw [aN.mp e]; exact Mk.newD⟩, fun b o u' e => Mk.keeps b o e⟩
 have S' : aq prog w cls RY (σ.add [x', dx]) (H ++ [.inst i (H.length + 1), .attrs (fJ P.nattr none)]) h' := by
  refine ⟨fun b o e => Mk.keeps b o (S.keep b o e), by simp [Tk.tr_add, S.len], fun b hb => ?_, ?_, fun b hb => let ⟨ob, e⟩ := S.pvs b hb; ⟨ob, Mk.keeps _ _ e⟩, fun j b ob e1 e2 => ?_⟩
  ·rw [SA] at hb
   rcases aW.mp hb with q | q
   ·exact S.fresh b q
   ·rcases aP.mp q with e | e
    ·rw [e]; exact S.out Mk.newX
    ·rw [aN.mp e]; exact S.out Mk.newD
  ·rw [SA, bX]
   refine ⟨S.nodup, by simp [lD SM], fun y hy z hz e => ?_⟩
   subst e
   rcases aP.mp hz with q | q
   ·exact S.new' Mk.newX (q ▸ hy)
   ·exact S.new' Mk.newD (aN.mp q ▸ hy)
  ·have Sx := S.len
   by_cases q : j < H.length
   ·rw [Tk.tr_add, gY (by trivial)] at e1
    rw [gY q] at e2
    exact (S.objs j b ob e1 e2).grow G fun u' e => Mk.keeps _ _ e
   ·rw [Tk.tr_add, mP (by trivial)] at e1
    rw [mP (by trivial)] at e2
    have hj : j - σ.tr.length = j - H.length := by trivial
    rw [hj] at e1
    by_cases q0 : j - H.length = 0
    ·rw [q0] at e1 e2
     simp at e1 e2
     subst e1 e2
     exact ⟨TZ, dx, ox, by rw [Tk.tr_add, <-Sx, mP (by trivial)]; simp, hx, hcx, XP, Uw, SM⟩
    ·by_cases q1 : j - H.length = 1
     ·rw [q1] at e1 e2
      simp at e1 e2
      subst e1 e2
      refine ⟨_, XM, XX, by simp [W.nattr], fun k' n' x'' u' f2 => ?_, fun n' f2 => by simp at f2⟩
      rw [xr] at f2
      split at f2 <;> cases f2
     ·rw [mQ (by simp; trivial)] at e1; cases e1
 have hw : aR (A.under (.builtin "type.__call__" ⟨.ref (cls.at_ i) :: [], []⟩)) n := by
  have e1 : Code.weight (.builtin "type.__call__" ⟨.ref (cls.at_ i) :: [], []⟩) <= 1 := of_decide_eq_true (by kernel_rfl)
  have e2 : Code.cUnits (.builtin "type.__call__" ⟨.ref (cls.at_ i) :: [], []⟩) <= 5 := of_decide_eq_true (by kernel_rfl)
  exact ⟨by have := rm.depth; show A.depth + _ + n < _; trivial, by have := rm.units; show A.units + _ + 20 * n + 100 < _; trivial, rm.handled⟩
 refine ic f _ _ .none H' hc _ (σ.add [x', dx]) ⟨h', g, dr, t, os⟩ a [.ref x'] hf hw S' (an.cons ?_ an.nil) _ _ fun Sf s2 u N2 r2 => ?_
 ·simp only [VR]
  exact ⟨x', by rw [<-S.len]; simp [Tk.add], rfl⟩
 ·simp only [VR] at r2
  refine ⟨r2, h Sf s2 _ ⟨S'.trans G N2.grow, N2.sim, N2.gens, N2.os⟩ ?_⟩
  simp only [VR]
  refine ⟨x', N2.grow.at ?_, rfl⟩
  rw [<-S.len]; simp [Tk.add]
theorem AO : ∀ n ∈ ("pop" : ac) :: fI.drop 6, typeLookup (.type "object") n = pure none /\ n ∉ dE := by
 intro n hn
 refine ⟨?_, ?_⟩
 ·rw [xe, xf]
  simp only [fI, List.drop, aP, gb, or_false] at hn
  rcases hn with rfl | rfl | rfl | rfl | rfl | rfl | rfl | rfl | rfl | rfl | rfl | rfl | rfl | rfl | rfl | rfl | rfl | rfl | rfl | rfl | rfl | rfl <;> kernel_rfl
 ·have : ∀ n ∈ ("pop" : ac) :: fI.drop 6, n ∉ dE := by decide +kernel
  exact this n hn
theorem Jh {o : Expr} {name : ac} {TV pos : aJ} {es : List Expr} {Q E : aa -> ae -> Prop} (UI : kE o = true) (hl : (TV.endLine == pos.line) = true) (Sr : es.any bO = false) (hn : es.length < 20)
  (h : af (am prog w) A (eval o env) (fun ov Sd => af (am prog w) A (tK ov name (do return (<-importBound o env).getD true)) (fun fx Sp => af (am prog w) A (xq pos fx.1 fx.2 (gD pos (fK es env)) []) Q E Sp) E Sd) E s) :
  af (am prog w) A (eval (.Call (.Attribute o name TV) es [] pos) env) Q E s := by
 have Ws : attributeBase o name env (eval o env) = eval o env := by cases o <;> first | rfl | cases UI
 have Wm : methodCallForm (es.length + ([] : List w7).length) (gD pos (fK es env)) (backToKw pos (keywordEach [] env)) = true := by
  have e1 : ((gD pos (fK es env)).all fun x => !x.1) = true := by
   rw [bJ]
   intro x hx
   have := ul (env := env) (pos := pos) Sr
   rw [List.any_eq_false] at this
   simpa using this x hx
  unfold methodCallForm
  rw [e1]
  have e2 : (backToKw pos (keywordEach [] env)) = [] := rfl
  rw [e2]
  simp; trivial
 rw [arm_eval_Call, Ws]
 refine ah (cZ h (fun ov Sd Sw => ah (m7 ?_)) fun u' u' x => x)
 unfold methodCall
 rw [Wm]
 refine ah (dS ?_)
 show af (am prog w) A (tK ov name (do return (<-importBound o env).getD true)) _ E Sd
 refine cZ Sw (fun fx Sp TG => ?_) fun u' u' x => x
 have UG : methodCallPos true o env TV pos = pure pos := by unfold methodCallPos; simp [hl]
 obtain ⟨f, first⟩ := fx
 exact ah (xt UG TG)
theorem nJ {T : String} {m m' : Nat} {name nm : ac} {id : String} {fn : Nat -> String} (h : fI[m]? = some name) (e1 : m = m') (e2 : fI[m']? = some nm) (e3 : id = fn m') (e4 : Slot T nm id) (e5 : oL (.builtin id) = pure (.type "method_descriptor")) :
  Slot T name (fn m) /\ oL (.builtin (fn m)) = pure (.type "method_descriptor") := by
 rw [e1] at h ⊢
 rw [<-e3, <-aC (e2.symm.trans h)]
 exact ⟨e4, e5⟩
theorem Pt {m : Nat} {name : ac} (h : fI[m]? = some name) {z : V} {l : List V} {i : Nat} {vs : List V} (e : dB H i l m vs = some (z, H')) :
  Slot "list" name (wo m) /\ oL (.builtin (wo m)) = pure (.type "method_descriptor") :=
 ew e (fun hm u' => nJ h hm rfl rfl Qj PySem.F.type_list_append) fun u' e => ew e (fun hm u' => nJ h hm rfl rfl Qk PySem.F.type_list_extend) fun u' e =>
  ew e (fun hm u' => nJ h hm rfl rfl Qm PySem.F.type_list_pop) fun u' e => bT e fun hm u' => nJ h hm rfl rfl Qp PySem.F.type_list_remove
theorem HT {m : Nat} {name : ac} (h : fI[m]? = some name) {z : V} {l : List (Int × V)} {i : Nat} {vs : List V} (e : gQ H i l m vs = some (z, H')) :
  Slot "dict" name (uF m) /\ oL (.builtin (uF m)) = pure (.type "method_descriptor") :=
 ew e (fun hm u' => nJ h hm rfl rfl Qt PySem.F.type_dict_setdefault) fun u' e => bT e fun hm u' => nJ h hm rfl rfl Qu PySem.F.type_dict_get
section
variable (W : Wd P cls RY) {cl : Nat -> List V -> AH -> Option (V × AH)} (ic : SC prog w cls RY cl n) {name : ac} {m ri : Nat} {a : ak} {vs : List V} {v : V} {H1 H2 : AH} {Tj : d8 Bool} {X : aa × List aa -> d8 aa} {Q E : aa -> ae -> Prop}
 (rm : aR A n) (S : aq prog w cls RY σ H1 s.heap) (ha : σ.tr[ri]? = some a) (hm : fI[m]? = some name)
 (args : ∀ {f : aa} {first : List aa}, ((∃ id, f = .builtin id) \/ ∃ a o fd, f = .ref a /\ RY.get? a = some o /\ o.data = .func fd) -> (∀ Sf s2 q, Nx prog w cls RY σ s Sf H2 s2 -> an Sf s2.heap vs q -> af (am prog w) A (call f (first ++ q)) Q E s2) -> af (am prog w) A (X (f, first)) Q E s)
 (h : ∀ RZ s' v', Nx prog w cls RY σ s RZ H' s' -> VR RZ s'.heap v v' -> Q v' s')
include S ha hm args h
theorem Fb {l0 l : List V} (hi : ag H1 ri = some (.list l0)) (TZ : ag H2 ri = some (.list l)) (e : dB H2 ri l m vs = some (v, H')) : af (am prog w) A (tK (.ref a) name Tj) (fun fx Sp => af (am prog w) A (X fx) Q E Sp) E s := by
 obtain ⟨us, ⟨nn, eo⟩, _⟩ := S.objs ri a _ ha hi
 obtain ⟨sl, ty⟩ := Pt hm e
 refine Qw ⟨_, eo, rfl⟩ PySem.F.plainAttrs_list sl ty (fun b e => by cases e; exact ⟨_, eo, rfl⟩) (args (.inl ⟨_, rfl⟩) fun Sf s2 q N2 r2 => ?_)
 exact Of N2.sim (N2.grow.at ha) TZ (fun Su s3 z N3 r3 => h Su s3 z (N2.trans N3) r3) r2 e
theorem HI {l0 l : List (Int × V)} (hi : ag H1 ri = some (.dict l0)) (TZ : ag H2 ri = some (.dict l)) (e : gQ H2 ri l m vs = some (v, H')) : af (am prog w) A (tK (.ref a) name Tj) (fun fx Sp => af (am prog w) A (X fx) Q E Sp) E s := by
 obtain ⟨kvs, hd, _⟩ := S.objs ri a _ ha hi
 obtain ⟨sl, ty⟩ := HT hm e
 refine Qw hd.typeIs PySem.F.plainAttrs_dict sl ty hd.mapOf.noDict (args (.inl ⟨_, rfl⟩) fun Sf s2 q N2 r2 => ?_)
 exact Ol N2.sim (N2.grow.at ha) TZ (fun Su s3 z N3 r3 => h Su s3 z (N2.trans N3) r3) r2 e
include W ic rm
theorem Od {ci j f : Nat} {ma : List (Option V)} (hi : ag H1 ri = some (.inst ci j)) (hj : ag H1 j = some (.attrs ma)) (hf : P.meth ci m = some f) (e : cl f (.ref ri :: vs) H2 = some (v, H')) : af (am prog w) A (tK (.ref a) name Tj) (fun fx Sp => af (am prog w) A (X fx) Q E Sp) E s := by
 obtain ⟨d, mA, UO, hd, SM, I, RA, C, g1, g2, g3, g4, _, _, _⟩ := S.inst W.B ha hi hj
 obtain ⟨nm', fa, q1, q2, q3, q4, oc, VA, Wq⟩ := W.meth ci m f hf
 rw [<-aC (hm.symm.trans q1)] at q2 q3
 obtain ⟨o2, fd, ps, body, sc, z1, z3, _⟩ := id q4
 obtain ⟨nm, q, bs, sn, sub, W7, dd, k0, k1, k2, k3, k5, hC⟩ := C.obj
 have Z0 : mA name = none := by
  cases hq : mA name with
  | none => rfl
  | some u =>
   obtain ⟨k', x', e1, _⟩ := RA.only name (by rw [hq]; rfl)
   exact absurd (aT e1) (AO name q2).2
 refine method_ofFk hC C.ns g1 g2 q3 (S.keep _ _ z1) (aC (z1.symm.trans VA) ▸ Wq) (AO name q2).1 I Z0 (args (.inr ⟨fa, o2, fd, rfl, z1, z3⟩) fun Sf s2 q N2 r2 => ?_)
 exact ic f (.ref ri :: vs) H2 v H' e A Sf s2 fa (.ref a :: q) q4 rm N2.sim (an.cons ⟨a, N2.grow.at ha, rfl⟩ r2) Q E fun Su s3 u N3 r3 => h Su s3 u (N2.trans N3) r3
end
theorem Lg (W : Wd P cls RY) {cl : Nat -> List V -> AH -> Option (V × AH)} (ih : SE prog w cls RY ev n) (ic : SC prog w cls RY cl n) {o : Expr} {o' : E} {name : ac} {m ri : Nat} {t t' : Bool} {es : List Expr} {Si : List E} {vs : List V} {v : V} {H1 H2 : AH} {TV pos : aJ}
  (UI : kE o = true) (hl : (TV.endLine == pos.line) = true) (Sr : es.any bO = false) (hn : es.length < 20) (hm : fI.idxOf? name = some m) (h1 : ay k c t' o = some o') (e1 : ev o' loc H = some (.ref ri, H1))
  (Sb : aS (ay k c t) es = some Si) (R9 : cW ev Si loc H1 = some (vs, H2))
  (hc : (∃ l0 l, ag H1 ri = some (.list l0) /\ ag H2 ri = some (.list l) /\ dB H2 ri l m vs = some (v, H')) \/ (∃ l0 l, ag H1 ri = some (.dict l0) /\ ag H2 ri = some (.dict l) /\ gQ H2 ri l m vs = some (v, H')) ∨
   (∃ ci j ma f, ag H1 ri = some (.inst ci j) /\ ag H1 j = some (.attrs ma) /\ P.meth ci m = some f /\ cl f (.ref ri :: vs) H2 = some (v, H')))
  (rm : aR A n) (R : aA env c loc σ s.heap) (S : aq prog w cls RY σ H s.heap) : ct prog w cls RY A (eval (.Call (.Attribute o name TV) es [] pos) env) σ s v H' := fun Q E h => by
 refine Jh UI hl Sr hn (ih k c t' o o' loc H _ H1 h1 e1 A env σ s rm R S _ _ fun R6 s1 u N1 r1 => ?_)
 obtain ⟨a, ha, eu⟩ := r1
 rw [eu]
 have args : ∀ {f : aa} {first : List aa}, ((∃ id, f = .builtin id) \/ ∃ a o fd, f = .ref a /\ RY.get? a = some o /\ o.data = .func fd) -> (∀ Sf s2 q, Nx prog w cls RY R6 s1 Sf H2 s2 -> an Sf s2.heap vs q -> af (am prog w) A (call f (first ++ q)) Q E s2) →
   af (am prog w) A (xq pos f first (gD pos (fK es env)) []) Q E s1 := fun {f first} hf hq => by
  refine mz Sr (hf.imp id fun ⟨a, o, fd, e1, e2, e3⟩ => .inr ⟨a, o, fd, e1, N1.sim.keep _ _ e2, e3⟩) ?_
  refine kQ ih es Si loc H1 vs H2 Sr Sb R9 A env R6 s1 pos rm (R.grow N1.grow) N1.sim _ _ fun Sf s2 q N2 r2 => ⟨fun b ob e hb => ?_, hq Sf s2 q N2 r2⟩
  rcases hf with ⟨id, ef⟩ | ⟨a', o', fd, ef, e2, e3⟩
  ·exact nomatch ef.symm.trans e
  ·rw [<-Qy (ef.symm.trans e)] at hb ⊢
   rw [<-aC ((N1.sim.keep _ _ e2).symm.trans hb)]
   exact N2.sim.keep _ _ e2
 have Sk : ∀ RZ s' v', Nx prog w cls RY R6 s1 RZ H' s' -> VR RZ s'.heap v v' -> Q v' s' := fun Su s3 z N3 r3 => h Su s3 z (N1.trans N3) r3
 rcases hc with ⟨l0, l, hi, TZ, e⟩ | ⟨l0, l, hi, TZ, e⟩ | ⟨ci, j, ma, f, hi, hj, hf, e⟩
 ·exact Fb N1.sim ha (lQ hm) args Sk hi TZ e
 ·exact HI N1.sim ha (lQ hm) args Sk hi TZ e
 ·exact Od W ic rm N1.sim ha (lQ hm) args Sk hi hj hf e
end
end
section
section
variable {prog : aG} {w : aE} {cls : aZ} {RY : ao} {A : bm} {σ : Tk} {s : ae} {H H' : AH} {P : cn}
variable {n : Nat} {ev : E -> Loc -> AH -> Option (V × AH)} {k : Nat} {c : TC} {loc : Loc} {env : bH}
theorem Pe {a b : E} {u v : V} {H1 H2 : AH} (h : ev a loc H = some (u, H1)) (h' : ev b loc H1 = some (v, H2)) : cW ev [a, b] loc H = some ([u, v], H2) :=
 lS (gl (bL ev) [a, b] loc H) (by show WO (ev a loc H) _; rw [h]; show WO (ev b loc H1) _; rw [h']; exact ⟨rfl, rfl⟩)
theorem sO {α β : Type} {f : α -> Option β} {a : α} {b : β} (h : f a = some b) : aS f [a] = some [b] := by
 show (f a).bind _ = _
 rw [h]; rfl
theorem EN {α β : Type} {f : α -> Option β} {a a' : α} {b b' : β} (h : f a = some b) (h' : f a' = some b') : aS f [a, a'] = some [b, b'] := by
 show (f a).bind _ = _
 rw [h]
 show (aS f [a']).map _ = _
 rw [sO h']; rfl
theorem GF {i : Option Nat} {as : List Expr} {tr : Expr -> Option E} {o : Option It} {it : It} {G : Prop} (h : vU i as tr o = some it) (g1 : ∀ a a', as = [a] -> i = some 7 -> tr a = some a' -> .range1 a' = it -> G) (g2 : ∀ a b a' b', as = [a, b] -> i = some 7 -> tr a = some a' -> tr b = some b' -> .range2 a' b' = it -> G)
  (g3 : ∀ a a', as = [a] -> i = some 8 -> tr a = some a' -> .enum a' = it -> G) (g4 : o = some it -> G) : G := by
 refine ew h (fun q h => ?_) fun u' h => ew h (fun q h => ?_) fun u' h => g4 h
 ·cases as with
  | nil => exact g4 h
  | cons a as => cases as with
   | nil => exact bd h fun a' => g1 a a' rfl q
   | cons b as => cases as with
    | nil => exact bv h fun a' h1 h => bd h fun b' => g2 a b a' b' rfl q h1
    | cons => exact g4 h
 ·cases as with
  | nil => exact g4 h
  | cons a as => cases as with
   | nil => exact bd h fun a' => g3 a a' rfl q
   | cons => exact g4 h
structure jy (prog : aG) (w : aE) (cls : aZ) (RY : ao) (σ : Tk) (s : ae) (g : G) (items : List V) (RZ : Tk) (H' : AH) (s1 s' : ae) (I : ak) (wr : List ak) (tp : Bool) : Prop where
 nx : Nx prog w cls RY σ s RZ H' s1
 fresh : ∀ a ∈ wr, s1.heap.get? a = none
 keep : ∀ b o, s1.heap.get? b = some o -> s'.heap.get? b = some o
 gens : s'.gens = s1.gens
 os : s'.os = s1.os
 sim : aq prog w cls RY (RZ.own wr) H' s'.heap
 walk : dM (RZ.own wr) s'.heap I wr g items 0 tp
theorem zI {l : List V} {a : ak} {g : G} {us : Array aa} {Q E : aa -> ae -> Prop} (S : aq prog w cls RY σ H s.heap) (L : iE σ s.heap a g l) (hl : s.heap.IsList a us)
  (h : ∀ RZ s1 s' I wr tp, jy prog w cls RY σ s g l RZ H s1 s' I wr tp -> tp = false -> Q (.ref I) s') : af (am prog w) A (fz (.ref a)) Q E s := by
 refine Qz hl (h σ s _ s.heap.objs.size [s.heap.objs.size] false ⟨Nx.refl S, fun b hb => ?_, fun b o e => br _ e, rfl, rfl, ?_, ?_⟩ rfl)
 ·rw [aN.mp hb]; exact g0 (bq _)
 ·refine S.enter (fun b hb => ?_) (by simp) (fun b hb => ?_) fun b o e => br _ e
  ·rw [aN.mp hb]; exact g0 (bq _)
  ·rw [aN.mp hb]; exact ⟨_, cz _ rfl⟩
 ·refine .list ⟨_, cz _ rfl, rfl, rfl⟩ rfl ?_
  rcases L with ⟨i, e1, e2⟩ | ⟨e1, e2, us', e3, e4⟩
  ·exact .inl ⟨i, e1, e2⟩
  ·refine .inr ⟨e1, Tk.own_all e2 fun q => ?_, us', e3.push _, e4.enter (fun b hb => ?_) fun b o e => br _ e⟩
   ·obtain ⟨o, ho, _⟩ := e3
    rw [aN.mp q] at ho
    exact absurd (dT ho) (eR _)
   ·rw [aN.mp hb]; exact g0 (bq _)
theorem jy.after {R6 : Tk} {s0 : ae} {H1 : AH} {g : G} {items : List V} {RZ : Tk} {H' : AH} {s1 s' : ae} {I : ak} {wr : List ak} {tp : Bool} (N : Nx prog w cls RY σ s R6 H1 s0) (W : jy prog w cls RY R6 s0 g items RZ H' s1 s' I wr tp) : jy prog w cls RY σ s g items RZ H' s1 s' I wr tp :=
 ⟨N.trans W.nx, W.fresh, W.keep, W.gens, W.os, W.sim, W.walk⟩
theorem qh {h : ao} : ∀ b ∈ [h.objs.size], h.get? b = none := fun b hb => by rw [aN.mp hb]; exact g0 (bq _)
section
variable {g : G} {items : List V} {Q E : aa -> ae -> Prop}
noncomputable abbrev jP (prog : aG) (w : aE) (cls : aZ) (RY : ao) (σ : Tk) (s : ae) (g : G) (items : List V) (H' : AH) (t : Bool) (Q : aa -> ae -> Prop) : Prop :=
 ∀ RZ s1 s' I wr tp, jy prog w cls RY σ s g items RZ H' s1 s' I wr tp -> (tp = true -> t = true) -> Q (.ref I) s'
theorem jP.after {t : Bool} {R6 : Tk} {s0 : ae} {H1 : AH} (N : Nx prog w cls RY σ s R6 H1 s0) (h : jP prog w cls RY σ s g items H' t Q) : jP prog w cls RY R6 s0 g items H' t Q := fun RZ s1 s' I wr tp W => h RZ s1 s' I wr tp (W.after N)
theorem Ik {a : ak} {us : Array aa} (S : aq prog w cls RY σ H s.heap) (na : a ∉ σ.all) (ht : oF s.heap a us) (rr : an σ s.heap items us.toList) (h : jP prog w cls RY σ s none items H false Q) : af (am prog w) A (fz (.ref a)) Q E s := by
 refine wpAny_pyIter_tuple ht (h σ s _ s.heap.objs.size [s.heap.objs.size] false ⟨Nx.refl S, qh, fun b o e => br _ e, rfl, rfl, ?_, ?_⟩ id)
 ·refine S.enter qh (dh.mpr ⟨gb, m8⟩) (fun b hb => ?_) fun b o e => br _ e
  rw [aN.mp hb]; exact ⟨_, cz _ rfl⟩
 ·obtain ⟨o, ho, r⟩ := ht
  refine .tuple ⟨_, cz _ rfl, rfl, rfl⟩ rfl (Tk.own_all na fun q => ?_) ⟨o, br _ ho, r⟩ (rr.enter qh fun b o e => br _ e) rfl
  exact aD ((qh _ q).symm.trans ho)
theorem Pd (ih : SE prog w cls RY ev n) {e : Expr} {e' : M.Tactic.E} (h1 : ay k c false e = some e') (R9 : iter ev (.of e') loc H = some (items, g, H')) (rm : aR A n) (R : aA env c loc σ s.heap) (S : aq prog w cls RY σ H s.heap)
  (h : jP prog w cls RY σ s g items H' false Q) : af (am prog w) A (eval e env) (fun x Sd => af (am prog w) A (fz x) Q E Sd) E s := by
 have run : ∀ x, ev e' loc H = some (x, H') -> (∀ R6 s1 v, Nx prog w cls RY σ s R6 H' s1 -> VR R6 s1.heap x v -> af (am prog w) A (fz v) Q E s1) -> af (am prog w) A (eval e env) (fun x Sd => af (am prog w) A (fz x) Q E Sd) E s :=
  fun x h2 go => ih k c false e e' loc H _ _ h1 h2 A env σ s rm R S _ _ go
 refine DT R9 (fun i h2 hl eg => run _ h2 fun R6 s1 v N1 r1 => ?_) (fun h2 eg => run _ h2 fun R6 s1 v N1 r1 => ?_) fun h2 eg => run _ h2 fun R6 s1 v N1 r1 => ?_
 ·obtain ⟨a, ha, ev⟩ := r1
  obtain ⟨us, ⟨nn, eo⟩, _⟩ := N1.sim.objs i a _ ha hl
  rw [ev]
  exact zI N1.sim (.inl ⟨i, eg, ha⟩) ⟨_, eo, rfl, nn, rfl⟩ fun RZ s1 s' I wr tp W Xa => h.after N1 RZ s1 s' I wr tp W fun q => Xa ▸ q
 ·obtain ⟨a, us, ev, nb, hl, _, rr, _⟩ := r1
  rw [ev]
  exact zI N1.sim (.inr ⟨eg, nb, us, hl, rr⟩) hl fun RZ s1 s' I wr tp W Xa => h.after N1 RZ s1 s' I wr tp W fun q => Xa ▸ q
 ·obtain ⟨a, us, ev, na, ht, _, rr⟩ := r1
  rw [ev]
  rw [eg] at h
  exact Ik N1.sim na ht rr (h.after N1)
theorem zb {lo hi : Int} {t u v : Tok} {hr : ao} {tk : Nat} (er : hr = s.heap.push { cls := .type "range", data := .fields #[.int lo t, .int hi u, .int 1 v] }) (S : aq prog w cls RY σ H s.heap) (S9 : lo.natAbs < 4096) (YX : hi.natAbs < 4096)
  (h : jP prog w cls RY σ s none ((bQ (hi - lo).toNat).map fun (k : Nat) => V.int (lo + (k : Int))) H false Q) : af (am prog w) A (fz (.ref s.heap.objs.size)) Q E { s with heap := hr, toks := tk } := by
 have k0 : ∀ b o, s.heap.get? b = some o -> hr.get? b = some o := fun b o e => by rw [er]; exact br _ e
 have hz : hr.objs.size = s.heap.objs.size + 1 := by rw [er]; exact gc ..
 have ir : IsRange hr s.heap.objs.size lo hi 1 t u v := by rw [er]; exact IsRange.new ..
 clear er
 have hn : ∀ b ∈ [s.heap.objs.size + 1], s.heap.get? b = none := fun b hb => by rw [aN.mp hb]; exact g0 (io _)
 refine wpAny_pyIter_range ir (small_one (c4 S9) (c3 S9) (c4 YX) (c3 YX)) ?_
 have gi := cz hr (o := { cls := .type "range_iterator", data := .fields #[dO lo, dO (Builtin.Range.rangeSize lo hi 1), dO 1] }) rfl
 rw [hz] at gi
 show Q (.ref hr.objs.size) _
 rw [hz]
 have kk : ∀ (o2 : de) b o, s.heap.get? b = some o -> (hr.push o2).get? b = some o := fun o2 b o e => br _ (k0 _ _ e)
 refine h σ s _ (s.heap.objs.size + 1) [s.heap.objs.size + 1] false ⟨Nx.refl S, hn, kk _, rfl, rfl, ?_, ?_⟩ id
 ·refine S.enter hn (dh.mpr ⟨gb, m8⟩) (fun b hb => ?_) (kk _)
  rw [aN.mp hb]; exact ⟨_, gi⟩
 ·refine .range (a := lo) (n := (hi - lo).toNat) (i := 0) ?_ rfl rfl
  have e6 : lo + ((0 : Nat) : Int) = lo := Int.add_zero lo
  have e7 : (((hi - lo).toNat : Nat) : Int) - ((0 : Nat) : Int) = if lo < hi then hi - lo else 0 := by
   by_cases q : lo < hi
   ·rw [if_pos q]; exact ar34 q
   ·rw [if_neg q, Int.toNat_eq_zero.mpr (Int.sub_nonpos_of_le (PO q))]; rfl
  show Heap.get? _ _ = _
  rw [e6, e7, <-rangeSize_one]
  exact gi
theorem yf {a : ak} {us : Array aa} {nn : Nat} {l : List V} (S : aq prog w cls RY σ H s.heap) (hax : s.heap.get? a = some { cls := .type "list", data := .seq us nn }) (L : iE σ s.heap a g l)
  (h : jP prog w cls RY σ s g (l.zipIdx.map fun p => V.tup [.int (p.2 : Int), p.1]) H true Q) : af (am prog w) A (call (.type "enumerate") [.ref a]) (fun x Sd => af (am prog w) A (fz x) Q E Sd) E s := by
 refine call_enumerate_1 hax fun h' he hit hz hk => ?_
 refine QA he ?_
 have hn : ∀ b ∈ [s.heap.objs.size + 1, s.heap.objs.size], s.heap.get? b = none := fun b hb => by
  rcases aP.mp hb with e | e
  ·rw [e]; exact g0 (io _)
  ·exact qh b e
 refine h σ s _ (s.heap.objs.size + 1) [s.heap.objs.size + 1, s.heap.objs.size] true ⟨Nx.refl S, hn, hk, rfl, rfl, ?_, ?_⟩ id
 ·refine S.enter hn (dh.mpr ⟨fun e => QB _ (aN.mp e), dh.mpr ⟨gb, m8⟩⟩) (fun b hb => ?_) hk
  rcases aP.mp hb with e | e
  ·rw [e]; exact ⟨_, he⟩
  ·rw [aN.mp e]; obtain ⟨o, e', _⟩ := hit; exact ⟨o, e'⟩
 ·refine .enum (i := 0) (old := .none) he hit rfl (QB _) ?_
  rcases L with ⟨i, e1, e2⟩ | ⟨e1, e2, us', ⟨o, ho, r⟩, e4⟩
  ·exact .inl ⟨i, e1, e2⟩
  ·exact .inr ⟨e1, Tk.own_all e2 fun q => aD ((hn _ q).symm.trans ho), us', ⟨o, hk _ _ ho, r⟩, e4.enter hn hk⟩
theorem sX {i : Nat} {m : ac} {f : aa} (h : dQ[i]? = some m) (q : (m, f) ∈ h6) : ∀ n, dQ[i]? = some n -> (n, f) ∈ h6 := fun n e => aC (h.symm.trans e) ▸ q
theorem Pr {x : ac} {i : Nat} (hi : dQ.idxOf? x = some i) : (x == ("__debug__" : ac)) = false := by
 have : ∀ y ∈ dQ, (y == ("__debug__" : ac)) = false := by decide +kernel
 exact this x (aT (lQ hi))
theorem um (W : Wd P cls RY) (ih : SE prog w cls RY ev n) {x T : ac} {i : Nat} {f : String} {p q : aJ} {as : List Expr} {Ym : List M.Tactic.E} {vs : List V} (hg : dY c x = true) (hi : dQ.idxOf? x = some i) (hT : dQ[i]? = some T) (hm : (T, Value.type f) ∈ h6) (Sr : as.any bO = false)
  (Sb : aS (ay k c false) as = some Ym) (R9 : cW ev Ym loc H = some (vs, H')) (rm : aR A n) (R : aA env c loc σ s.heap) (S : aq prog w cls RY σ H s.heap)
  (h : ∀ R6 s1 us, Nx prog w cls RY σ s R6 H' s1 -> an R6 s1.heap vs us -> af (am prog w) A (call (.type f) us) (fun x Sd => af (am prog w) A (fz x) Q E Sd) E s1) :
  af (am prog w) A (eval (.Call (.Name x p) as [] q) env) (fun x Sd => af (am prog w) A (fz x) Q E Sd) E s := by
 obtain ⟨mg, mb, N⟩ := W.names
 refine mB hg (Pr hi) N (.inr (rU hi (f := .type f) (sX hT hm) N)) R S (mz Sr (.inr (.inl ⟨_, rfl⟩)) ?_)
 exact kQ (k := k) (t := false) ih as Ym loc H vs _ Sr Sb R9 A env σ s q rm R S _ _ fun R6 s1 us N1 r1 => ⟨fun a o e => (nomatch e), h R6 s1 us N1 r1⟩
theorem Gc {e : Expr} {it : It} {G : Prop} (h : gM (k + 1) c e = some it) (g : ∀ x p as q, e = .Call (.Name x p) as [] q -> dY c x = true -> as.any bO = false -> vU (dQ.idxOf? x) as (ay k c false) ((ay k c false (.Call (.Name x p) as [] q)).map It.of) = some it -> G) (o : (ay k c false e).map It.of = some it -> G) : G := by
 have key : ∀ e0, e = e0 -> gM (k + 1) c e0 = some it -> G := fun e0 he h => by
  rw [he] at o
  cases e0 with
  | Call f as ks q =>
   cases ks with
   | nil =>
    have Xw : ∀ f0, f = f0 -> gM (k + 1) c (.Call f0 as [] q) = some it -> G := fun f0 hf h => by
     cases f0 with
     | Name x p =>
      rw [hf] at he
      exact bT h fun YY Sb => g x p as q he (bk.mp YY).1 (mc (bk.mp YY).2) Sb
     | _ => rw [hf] at o; exact o h
    exact Xw f rfl h
   | cons => exact o h
  | Set => exact aD h
  | _ => exact o h
 exact key e rfl h
theorem Ah (W : Wd P cls RY) (ih : SE prog w cls RY ev n) {e : Expr} {it : It} (Sb : gM k c e = some it) (R9 : iter ev it loc H = some (items, g, H')) (rm : aR A n) (R : aA env c loc σ s.heap) (S : aq prog w cls RY σ H s.heap)
  (h : ∀ RZ s1 s' I wr tp, jy prog w cls RY σ s g items RZ H' s1 s' I wr tp -> (tp = true -> ∃ e, it = .enum e) -> Q (.ref I) s') : af (am prog w) A (eval e env) (fun x Sd => af (am prog w) A (fz x) Q E Sd) E s := by
 cases k with
 | zero => exact aD Sb
 | succ k =>
 have h0 : jP prog w cls RY σ s g items H' false Q := fun RZ s1 s' I wr tp W q => h RZ s1 s' I wr tp W fun z => aY (q z)
 have other : (ay k c false e).map It.of = some it -> af (am prog w) A (eval e env) (fun x Sd => af (am prog w) A (fz x) Q E Sd) E s := fun Sb => bd Sb fun e' h1 U3 => Pd ih h1 (U3 ▸ R9) rm R S h0
 refine Gc Sb (fun x p as q ee hg hs Sb => ?_) other
 rw [ee] at other ⊢
 refine GF Sb (fun a a' e1 h7 h1 U3 => ?_) (fun a b a' b' e1 h7 h1 h2 U3 => ?_) (fun a a' e1 h8 h1 U3 => ?_) other
 ·rw [e1] at hs ⊢
  rw [<-U3] at R9
  refine HV R9 fun m hm ln ei eg => ?_
  rw [ei, eg] at h0
  refine um W ih hg h7 rfl (aT (i := 7) rfl) hs (sO h1) (v6 hm) rm R S fun R6 s1 us N1 r1 => ?_
  obtain ⟨_, _, e2, ⟨t, e3⟩, e4⟩ := r1
  rw [e2, e3, show _ = [] from e4]
  have hl : ((bQ m.toNat).map fun (k : Nat) => V.int (k : Int)) = (bQ (m - 0).toNat).map fun (k : Nat) => V.int (0 + (k : Int)) := by rw [Int.sub_zero]; exact oM fun u' u' => by rw [Int.zero_add]
  rw [hl] at h0
  exact call_range_1 (zb rfl N1.sim (by decide) ln (h0.after N1))
 ·rw [e1] at hs ⊢
  rw [<-U3] at R9
  refine My R9 fun m m' H1 hm hm' l1 l2 ei eg => ?_
  rw [ei, eg] at h0
  refine um W ih hg h7 rfl (aT (i := 7) rfl) hs (EN h1 h2) (Pe hm hm') rm R S fun R6 s1 us N1 r1 => ?_
  obtain ⟨_, _, e2, ⟨t, e3⟩, _, _, e4, ⟨t', e5⟩, e6⟩ := r1
  rw [e2, e3, e4, e5, show _ = [] from e6]
  exact call_range_2 (zb rfl N1.sim l2 l1 (h0.after N1))
 ·rw [e1] at hs ⊢
  have Vr : jP prog w cls RY σ s g items H' true Q := fun RZ s1 s' I wr tp W _ => h RZ s1 s' I wr tp W fun u' => ⟨a', U3.symm⟩
  rw [<-U3] at R9
  have run : ∀ x', ev a' loc H = some (x', H') -> (∀ R6 s1 v, Nx prog w cls RY σ s R6 H' s1 -> VR R6 s1.heap x' v -> af (am prog w) A (call (.type "enumerate") [v]) (fun x Sd => af (am prog w) A (fz x) Q E Sd) E s1) -> _ :=
   fun x' hx go => um (p := p) (q := q) W ih hg h8 rfl (aT (i := 8) rfl) hs (sO h1) (v6 hx) rm R S fun R6 s1 us N1 r1 => by
    obtain ⟨v, _, e2, rv, e4⟩ := r1
    rw [e2, show _ = [] from e4]; exact go R6 s1 v N1 rv
  refine MC R9 (fun i l hx hi ei eg => run _ hx fun R6 s1 v N1 rv => ?_) fun l hx Z7 ei eg => run _ hx fun R6 s1 v N1 rv => ?_
  ·obtain ⟨ax, ha, ev⟩ := rv
   obtain ⟨us, ⟨nn, eo⟩, _⟩ := N1.sim.objs i ax _ ha hi
   rw [ei] at Vr
   rw [ev]
   exact yf N1.sim eo (.inl ⟨i, eg, ha⟩) (Vr.after N1)
  ·obtain ⟨ax, us, ev, nb, hl, _, rr, pl⟩ := rv
   rcases pl with pl | ⟨nn, eo⟩
   ·exact aY (pl.symm.trans Z7)
   ·rw [ei] at Vr
    rw [ev]
    exact yf N1.sim eo (.inr ⟨eg, nb, us, hl, rr⟩) (Vr.after N1)
end
end
end
section
noncomputable def dC (env : bH) : List (ac × fu) -> List (ac × ak) -> List (ac × ak)
 | [], cs => cs
 | (x, k) :: r, cs => if k == .free then (match env.cells.lookup x with
  | some a => dC env r ((x, a) :: cs)
  | none => dC env r cs) else dC env r cs
theorem rG {env : bH} {cs} : dC env [] cs = (cs) := rfl
theorem qx {env : bH} {x} {k} {r} {cs} : dC env ((x, k) :: r) cs = (if k == .free then (match env.cells.lookup x with
  | some a => dC env r ((x, a) :: cs)
  | none => dC env r cs) else dC env r cs) := rfl
theorem Co {env : bH} {sc : cD} (h : ∀ x, (x, NameKind.free) ∈ sc.names -> ∃ a, env.cells.lookup x = some a) : xu sc env = pure (dC env sc.names []) := by
 have key : ∀ (names : List (ac × fu)) (cs : List (ac × ak)) (f : ac × fu -> List (ac × ak) -> d8 (ForInStep (List (ac × ak)))),
   (∀ x, (x, NameKind.free) ∈ names -> ∃ a, env.cells.lookup x = some a) -> (∀ x k cs, f (x, k) cs = if k == .free then (do let a <-cellOf env x; pure (.yield ((x, a) :: cs))) else pure (.yield cs)) -> forIn names cs f = pure (dC env names cs) := by
  intro names
  induction names with
  | nil => intro cs f _ _; rfl
  | cons p r ih =>
   intro cs f hf hs
   obtain ⟨x, k⟩ := p
   rw [js, hs]
   rw [qx]
   by_cases hk : (k == NameKind.free) = true
   ·rw [if_pos hk, if_pos hk]
    have TS : k = .free := by simpa using hk
    obtain ⟨a, ha⟩ := hf x (by rw [TS]; exact aL)
    have : cellOf env x = pure a := by unfold cellOf; rw [ha]
    rw [this, ha]
    simp only [pure_bind]
    exact ih _ f (fun y hy => hf y (aQ _ hy)) hs
   ·rw [if_neg hk, if_neg hk]
    simp only [pure_bind]
    exact ih _ f (fun y hy => hf y (aQ _ hy)) hs
 unfold xu
 simp only [bind_pure]
 exact key sc.names [] _ h fun x k cs => by cases hk : k == NameKind.free <;> simp
theorem wz {env : bH} {x : ac} : ∀ {names : List (ac × fu)} {cs : List (ac × ak)}, (dC env names cs).lookup x = if (x, NameKind.free) ∈ names /\ (env.cells.lookup x).isSome = true then env.cells.lookup x else cs.lookup x := by
 intro names
 induction names with
 | nil =>
  intro cs
  simp [rG, qx]
 | cons Se r iH =>
  obtain ⟨y, k⟩ := Se
  intro cs
  by_cases hk : k = .free
  ·subst hk
   have hm : x ≠ y -> (((x, NameKind.free) ∈ (y, NameKind.free) :: r) = ((x, NameKind.free) ∈ r)) := fun e => by simp [e]
   cases ha : env.cells.lookup y with
   | none =>
    have e0 : dC env ((y, NameKind.free) :: r) cs = dC env r cs := by simp [rG, qx, ha]
    rw [e0, iH]
    by_cases e : x = y
    ·subst e; simp [ha]
    ·simp only [hm e]
   | some a =>
    have e0 : dC env ((y, NameKind.free) :: r) cs = dC env r ((y, a) :: cs) := by simp [rG, qx, ha]
    rw [e0, iH]
    by_cases e : x = y
    ·subst e
     simp [ha, eT]
    ·have q : (x == y) = false := by simpa using e
     simp only [hm e, eT, q]
  ·have e0 : dC env ((y, k) :: r) cs = dC env r cs := by
    have : (k == NameKind.free) = false := by simpa using hk
    simp [rG, qx, this]
   rw [e0, iH]
   have hm : ((x, NameKind.free) ∈ (y, k) :: r) = ((x, NameKind.free) ∈ r) := by
    have TS : ¬ NameKind.free = k := fun e => hk e.symm
    simp [TS]
   simp only [hm]
theorem wb (names : List (ac × fu)) : ∀ (h : ao) (acc : List (ac × ak)), (∀ x y a, acc.lookup x = some a -> acc.lookup y = some a -> x = y) -> (∀ x a, acc.lookup x = some a -> a < h.objs.size) →
  (∀ x y a, (eI h.objs.size names acc).lookup x = some a -> (eI h.objs.size names acc).lookup y = some a -> x = y) ∧
  (∀ x a, (eI h.objs.size names acc).lookup x = some a -> acc.lookup x = some a \/ (h.objs.size <= a /\ (kh h names).IsCell a none /\ (x, NameKind.cell) ∈ names)) ∧
  (∀ x, (x, NameKind.cell) ∈ names -> ∃ a, (eI h.objs.size names acc).lookup x = some a) ∧
  (∀ x a, (x, NameKind.cell) ∉ names -> acc.lookup x = some a -> (eI h.objs.size names acc).lookup x = some a)
 := by
 induction names with
 | nil => exact fun h acc hi hb => ⟨hi, fun x a e => .inl e, fun x hx => (by cases hx), fun x a u' e => e⟩
 | cons nk r ih =>
  obtain ⟨name, kind⟩ := nk
  intro h acc hi hb
  by_cases hk : (kind == NameKind.cell) = true
  ·have TS : kind = .cell := by simpa using hk
   subst TS
   have e1 : eI h.objs.size ((name, NameKind.cell) :: r) acc = eI (h.push { cls := .type "cell", data := .cell none }).objs.size r ((name, h.objs.size) :: acc) := by
    rw [gc]; simp [eI]
   have e2 : kh h ((name, NameKind.cell) :: r) = kh (h.push { cls := .type "cell", data := .cell none }) r := by simp [kh]
   have UD : ∀ x a, ((name, h.objs.size) :: acc).lookup x = some a -> (x = name /\ a = h.objs.size) \/ (x ≠ name /\ acc.lookup x = some a) := fun x a e => by
    rw [eT] at e
    by_cases q : x = name
    ·subst q; simp at e; exact .inl ⟨rfl, e.symm⟩
    ·have : (x == name) = false := by simpa using q
     rw [this] at e; exact .inr ⟨q, e⟩
   obtain ⟨c1, c2, c3, c4⟩ := ih (h.push { cls := .type "cell", data := .cell none }) ((name, h.objs.size) :: acc)
    (fun x y a ex ey => by
     rcases UD x a ex with ⟨p1, p2⟩ | ⟨n1, ex'⟩ <;> rcases UD y a ey with ⟨q1, q2⟩ | ⟨n2, ey'⟩
     ·rw [p1, q1]
     ·exact absurd (hb _ _ ey') (by rw [p2]; exact eR _)
     ·exact absurd (hb _ _ ex') (by rw [q2]; exact eR _)
     ·exact hi x y a ex' ey')
    (fun x a ex => by
     rw [gc]
     rcases UD x a ex with ⟨p1, p2⟩ | ⟨n1, ex'⟩
     ·rw [p2]; exact j7 _
     ·exact j6 (hb _ _ ex'))
   rw [e1, e2]
   refine ⟨c1, fun x a e => ?_, fun x hx => ?_, fun x a nx e => ?_⟩
   ·rcases c2 x a e with q | ⟨q1, q2, q3⟩
    ·rcases UD x a q with ⟨p1, p2⟩ | ⟨n1, ex⟩
     ·rw [p1, p2]
      refine .inr ⟨bq _, ⟨{ cls := .type "cell", data := .cell none }, tL _ _ _ _ (cz _ rfl), rfl⟩, aL⟩
     ·exact .inl ex
    ·rw [gc] at q1
     exact .inr ⟨tM q1, q2, aQ _ q3⟩
   ·rcases aP.mp hx with q | q
    ·have q' : x = name := congrArg Prod.fst q
     by_cases m : (x, NameKind.cell) ∈ r
     ·exact c3 x m
     ·exact ⟨_, c4 x h.objs.size m (by rw [q']; simp [eT])⟩
    ·exact c3 x q
   ·simp only [aP, not_or] at nx
    have : x ≠ name := fun e => nx.1 (by rw [e])
    refine c4 x a nx.2 ?_
    rw [eT]
    have q : (x == name) = false := by simpa using this
    rw [q]; exact e
  ·have TS : kind ≠ .cell := fun e => hk (by rw [e]; rfl)
   have e1 : eI h.objs.size ((name, kind) :: r) acc = eI h.objs.size r acc := by
    conv => lhs; unfold eI
    rw [if_neg hk]
   have e2 : kh h ((name, kind) :: r) = kh h r := by
    conv => lhs; unfold kh
    rw [if_neg hk]
   obtain ⟨c1, c2, c3, c4⟩ := ih h acc hi hb
   rw [e1, e2]
   refine ⟨c1, fun x a e => ?_, fun x hx => ?_, fun x a nx e => ?_⟩
   ·rcases c2 x a e with q | ⟨q1, q2, q3⟩
    ·exact .inl q
    ·exact .inr ⟨q1, q2, aQ _ q3⟩
   ·rcases aP.mp hx with q | q
    ·exact absurd (congrArg Prod.snd q).symm TS
    ·exact c3 x q
   ·exact c4 x a (fun m => nx (aQ _ m)) e
theorem sw {α : Type} : ∀ {l : List (ac × α)} {x : ac} {k : α}, (l.map (·.1)).Nodup -> (x, k) ∈ l -> l.lookup x = some k := by
 intro l
 induction l with
 | nil =>
  intro _ _ _ h
  cases h
 | cons Se r iH =>
  obtain ⟨y, v⟩ := Se
  intro x k nd h
  simp only [cA, dh] at nd
  rw [eT]
  rcases aP.mp h with e | e
  ·cases e; simp
  ·have : x ≠ y := fun q => nd.1 (by rw [<-q]; exact bg.mpr ⟨_, e, rfl⟩)
   have q : (x == y) = false := by simpa using this
   rw [q]; exact iH nd.2 e
theorem zM : ∀ {l : List ac} {k : Nat} {x : ac} {i : Nat}, (i0 k l).lookup x = some i -> ∃ j, l[j]? = some x /\ i = k + j := by
 intro l
 induction l with
 | nil =>
  intro k x i e
  simp [Hl, IZ] at e
 | cons y r iH =>
  intro k x i e
  rw [i0, eT] at e
  by_cases q : x = y
  ·subst q; simp at e; exact ⟨0, rfl, by trivial⟩
  ·have : (x == y) = false := by simpa using q
   rw [this] at e
   obtain ⟨j, e1, e2⟩ := iH e
   exact ⟨j + 1, by simpa using e1, by trivial⟩
set_option tactic.hygienic true in
theorem Ic {c : TC} : ∀ {l : List (ac × fu)} {x : ac} {i : Nat}, (jo c l).lookup x = some i -> (x, NameKind.free) ∈ l /\ c.tab.lookup x = some i := by
 intro l
 induction l with
 | nil =>
  intro x i e
  simp [jo] at e
 | cons Se r iH =>
  obtain ⟨y, k⟩ := Se
  intro x i e
  by_cases hk : k = .free
  ·subst hk
   rw [jo] at e
   split at e
   ·rename_i j hj
    rw [eT] at e
    by_cases q : x = y
    ·subst q; simp at e; subst e; exact ⟨aL, hj⟩
    ·have : (x == y) = false := by simpa using q
     rw [this] at e
     obtain ⟨a, b⟩ := iH e
     exact ⟨aQ _ a, b⟩
   ·obtain ⟨a, b⟩ := iH e
    exact ⟨aQ _ a, b⟩
  ·have e0 : jo c ((y, k) :: r) = jo c r := by cases k <;> first | rfl | exact absurd rfl hk
   rw [e0] at e
   obtain ⟨a, b⟩ := iH e
   exact ⟨aQ _ a, b⟩
theorem zJ {sc : cD} {x : ac} : x ∈ dy sc ↔ (x, NameKind.local) ∈ sc.names \/ (x, NameKind.cell) ∈ sc.names := by
 simp only [dy, bg, QC]
 constructor
 ·rintro ⟨⟨y, k⟩, ⟨h1, h2⟩, rfl⟩
  simp only [xv, beq_iff_eq] at h2
  rcases h2 with h2 | h2 <;> subst h2
  ·exact .inl h1
  ·exact .inr h1
 ·rintro (h | h)
  ·exact ⟨(x, .local), ⟨h, by simp⟩, rfl⟩
  ·exact ⟨(x, .cell), ⟨h, by simp⟩, rfl⟩
end
section
noncomputable def gH (n : Nat) : List (ac × fu) -> List ak
 | [] => []
 | (_, k) :: r => if k == .cell then n :: gH (n + 1) r else gH n r
theorem r8 {n : Nat}  : gH n [] = ([]) := rfl
theorem jF {n : Nat} {u0} {k} {r} : gH n ((u0, k) :: r) = (if k == .cell then n :: gH (n + 1) r else gH n r) := rfl
theorem vR : ∀ {names : List (ac × fu)} {n : Nat} {a : ak}, a ∈ gH n names -> n <= a := by
 intro names
 induction names with
 | nil =>
  intro _ _ h
  simp [r8, jF] at h
 | cons Se r iH =>
  obtain ⟨x, k⟩ := Se
  intro n a h
  rw [jF] at h
  split at h
  ·rcases aP.mp h with e | e
   ·rw [e]; exact bq _
   ·exact tM (iH e)
  ·exact iH h
theorem Hu : ∀ {names : List (ac × fu)} {n : Nat}, (gH n names).Nodup := by
 intro names
 induction names with
 | nil =>
  intro _
  simp [r8, jF]
 | cons Se r iH =>
  obtain ⟨x, k⟩ := Se
  intro n
  rw [jF]
  split
  ·rw [dh]
   exact ⟨fun h => absurd (vR h) (xw n), iH⟩
  ·exact iH
set_option tactic.hygienic true in
theorem Nk : ∀ {names : List (ac × fu)} {h : ao} {a : ak}, a ∈ gH h.objs.size names -> ∃ o, (kh h names).get? a = some o := by
 intro names
 induction names with
 | nil =>
  intro _ _ h
  simp [r8, jF] at h
 | cons Se r iH =>
  obtain ⟨x, k⟩ := Se
  intro h a m
  rw [jF] at m
  unfold kh
  split at m
  ·rename_i q
   rw [if_pos q]
   rcases aP.mp m with e | e
   ·exact ⟨_, by rw [e]; exact tL _ _ _ _ (cz _ rfl)⟩
   ·exact iH (by rw [gc]; exact e)
  ·rename_i q
   rw [if_neg q]
   exact iH m
set_option tactic.hygienic true in
theorem vg : ∀ {names : List (ac × fu)} {n : Nat} {acc : List (ac × ak)} {x : ac} {a : ak}, (eI n names acc).lookup x = some a -> acc.lookup x = some a \/ a ∈ gH n names := by
 intro names
 induction names with
 | nil =>
  intro _ _ _ _ e
  exact .inl e
 | cons Se r iH =>
  obtain ⟨y, k⟩ := Se
  intro n acc x a e
  unfold eI at e
  rw [jF]
  split at e
  ·rename_i q
   rw [if_pos q]
   rcases iH e with e | e
   ·rw [eT] at e
    split at e
    ·cases e; exact .inr aL
    ·exact .inl e
   ·exact .inr (aQ _ e)
  ·rename_i q
   rw [if_neg q]
   exact iH e
structure vL (sc : cD) (c : TC) : Prop where
 fn : sc.kind = .function
 nd : (sc.names.map (·.1)).Nodup
 own : (dy sc).Nodup
 free : ∀ x, (x, NameKind.free) ∈ sc.names -> (∃ i, c.tab.lookup x = some i) /\ (c.scope.names.lookup x = some .cell \/ c.scope.names.lookup x = some .free)
theorem Iq {α β : Type} [BEq α] {l q : List (α × β)} {x : α} : (l ++ q).lookup x = (l.lookup x).or (q.lookup x) := by
 induction l with
 | nil => simp
 | cons p l ih =>
  obtain ⟨a, b⟩ := p
  simp only [kj, eT]
  split <;> simp_all
section
variable {σ : Tk} {h : ao} {c : TC} {loc : Loc} {env : bH} {sc : cD}
noncomputable def jd (h : ao) (sc : cD) : ao := kh (h.push { cls := .type "dict", data := .dict #[] }) sc.names
noncomputable def rF (h : ao) (sc : cD) (env : bH) : List (ac × ak) := eI (h.push { cls := .type "dict", data := .dict #[] }).objs.size sc.names (dC env sc.names [])
noncomputable def bt (h : ao) (sc : cD) : List ak := h.objs.size :: gH (h.push { cls := .type "dict", data := .dict #[] }).objs.size sc.names
noncomputable def lf (h : ao) (sc : cD) (env : bH) : bH := { scope := km sc env, locals := h.objs.size, globals := env.globals, cells := rF h sc env, qual := env.qual, func := none, code := env.code, frame := env.frame, builtins := env.builtins }
theorem kK {b : ak} {o : de} (e : h.get? b = some o) : (jd h sc).get? b = some o := tL _ _ _ _ (br _ e)
theorem jz : ∀ a ∈ bt h sc, h.get? a = none := fun a ha => by
 refine g0 ?_
 rcases aP.mp ha with e | e
 ·rw [e]; exact bq _
 ·have := vR e
  rw [gc] at this
  exact tM this
theorem BK : (bt h sc).Nodup := by
 unfold bt
 rw [dh]
 refine ⟨fun m => ?_, Hu⟩
 have := vR m
 rw [gc] at this
 exact xw _ this
theorem Fs : ∀ a ∈ bt h sc, ∃ o, (jd h sc).get? a = some o := fun a ha => by
 rcases aP.mp ha with e | e
 ·rw [e]; exact ⟨_, tL _ _ _ _ (cz _ rfl)⟩
 ·exact Nk e
theorem nN {x : ac} {i : Nat} (e : (di sc c).tab.lookup x = some i) : (x ∈ dy sc /\ ∃ j, (dy sc)[j]? = some x /\ i = c.n + j) \/ ((x, NameKind.free) ∈ sc.names /\ c.tab.lookup x = some i) := by
 have e' : ((i0 c.n (dy sc)).lookup x).or ((jo c sc.names).lookup x) = some i := by rw [<-Iq]; exact e
 cases h1 : (i0 c.n (dy sc)).lookup x with
 | some j =>
  rw [h1] at e'
  simp at e'
  subst e'
  obtain ⟨j', e1, e2⟩ := zM h1
  exact .inl ⟨aT e1, j', e1, e2⟩
 | none =>
  rw [h1] at e'
  simp at e'
  exact .inr (Ic e')
theorem Bs {x : ac} : (km sc env).names.lookup x = (sc.names.lookup x).map fun k => if (k == .free && env.scope.kind == .function && env.kindOf x == some .cell) then .cell else k := by
 unfold km
 simp only
 induction sc.names with
 | nil => rfl
 | cons p r ih =>
  obtain ⟨y, k⟩ := p
  simp only [cA]
  by_cases e : x = y
  ·subst e
   by_cases q : (k == .free && env.scope.kind == .function && env.kindOf x == some .cell) = true
   ·rw [if_pos q]
    simp only [eT, beq_self_eq_true, dN, q, if_true]
   ·rw [if_neg q]
    simp only [eT, beq_self_eq_true, dN]
    rw [if_neg q]
  ·have q : (x == y) = false := by simpa using e
   split <;> simp only [eT, q, ih]
set_option tactic.hygienic true in
theorem Hd (ok : vL sc c) (R : aA env c loc σ h) (ht : ∀ a ∈ σ.tr, ∃ o, h.get? a = some o) : aA (lf h sc env) (di sc c) (loc ++ fJ (dy sc).length none) (σ.own (bt h sc)) (jd h sc) /\ cN (lf h sc env) (di sc c) (bt h sc) c.n (σ.own (bt h sc)) := by
 have Ug : ∀ x, env.kindOf x = c.scope.names.lookup x := fun x => by unfold qN; rw [R.scope]
 have Wn : ∀ x a, (dC env sc.names []).lookup x = some a -> (x, NameKind.free) ∈ sc.names /\ env.cells.lookup x = some a := fun x a e => by
  rw [wz] at e
  split at e
  ·rename_i q; exact ⟨q.1, e⟩
  ·simp at e
 have SO : ∀ x a, env.cells.lookup x = some a -> ∃ o, h.get? a = some o := fun x a e => let ⟨_, _, _, ov, o, ho, _⟩ := R.ncell x a e; ⟨o, ho⟩
 have hz : (h.push { cls := .type "dict", data := .dict #[] }).objs.size = h.objs.size + 1 := gc ..
 obtain ⟨c1, c2, c3, c4⟩ := wb sc.names (h.push { cls := .type "dict", data := .dict #[] }) (dC env sc.names [])
  (fun x y a ex ey => R.apart x y a (Wn _ _ ex).2 (Wn _ _ ey).2) (fun x a e => by
   obtain ⟨o, ho⟩ := SO x a (Wn _ _ e).2
   rw [hz]; exact j6 (dT ho))
 have uniq : ∀ {x k k'}, (x, k) ∈ sc.names -> (x, k') ∈ sc.names -> k = k' := fun {x k k'} m m' => by
  have := sw ok.nd m
  rw [sw ok.nd m'] at this
  cases this; rfl
 have SW : ∀ {x i}, (x, NameKind.free) ∈ sc.names -> c.tab.lookup x = some i -> i < c.n := fun {x i} _ e => R.lt x i e
 have Vg : ∀ a ∈ bt h sc, a ∈ (σ.own (bt h sc)).pv := fun a ha => aV _ ha
 have T8 : ∀ a, a ∈ bt h sc -> a ∉ (σ.own (bt h sc)).tr := fun a ha q => by
  obtain ⟨o, e⟩ := ht a q
  rw [jz a ha] at e; cases e
 have TI : ∀ x a, (rF h sc env).lookup x = some a -> ((x, NameKind.free) ∈ sc.names /\ env.cells.lookup x = some a) \/ (h.objs.size + 1 <= a /\ (jd h sc).IsCell a none /\ (x, NameKind.cell) ∈ sc.names /\ a ∈ bt h sc) := fun x a e => by
  rcases c2 x a e with q | ⟨q1, q2, q3⟩
  ·exact .inl (Wn _ _ q)
  ·rcases vg e with m | m
   ·exact .inl (Wn _ _ m)
   ·rw [hz] at q1
    exact .inr ⟨q1, q2, q3, aQ _ m⟩
 obtain ⟨ml, Uf, UJ⟩ := R.locs
 refine ⟨⟨?_, ?_, R.glob, R.blt, ?_, ?_, c1, ?_, ?_, ?_, ⟨fun _ => none, ?_, ?_⟩, ?_⟩, ?_⟩
 ·show km sc env = lb sc c
  unfold km lb
  simp only [R.scope, Ug]
 ·show (lb sc c).kind = _
  exact ok.fn
 ·show (loc ++ fJ (dy sc).length none).length = c.n + (dy sc).length
  rw [dg, QD, R.n]
 ·intro x y i ex ey
  rcases nN ex with ⟨_, j, e1, e2⟩ | ⟨m1, e1⟩ <;> rcases nN ey with ⟨_, j', e3, e4⟩ | ⟨m2, e3⟩
  ·have : j = j' := by trivial
   subst this
   rw [e1] at e3; cases e3; rfl
  ·have := SW m2 e3; trivial
  ·have := SW m1 e1; trivial
  ·exact R.inj x y i e1 e3
 ·intro x i e
  show i < c.n + (dy sc).length
  rcases nN e with ⟨_, j, e1, e2⟩ | ⟨m1, e1⟩
  ·have := (bG.mp e1).1; trivial
  ·have := SW m1 e1; trivial
 ·exact ⟨aV _ aL, T8 _ aL⟩
 ·intro x a e
  rcases TI x a e with ⟨m, q⟩ | ⟨q1, q2, q3, q4⟩
  ·obtain ⟨n1, n2, n3, ov, n4⟩ := R.ncell x a q
   refine ⟨be _ n1, n2, fun e => ?_, ov, n4.keeps fun b o e => kK e⟩
   obtain ⟨o, ho⟩ := SO x a q
   rw [e] at ho
   exact absurd (dT ho) (eR _)
  ·refine ⟨aV _ q4, T8 _ q4, fun e => ?_, none, q2⟩
   have : a = h.objs.size := e
   rw [this] at q1
   exact absurd q1 (xw _)
 ·exact (Heap.Ns.new h (.type "dict")).keeps (tL _ _)
 ·intro x i v e1 e2 e3
  exfalso
  rw [show (di sc c).scope.names.lookup x = (km sc env).names.lookup x by show (lb sc c).names.lookup x = _; unfold km lb; simp only [R.scope, Ug], Bs] at e2
  rcases nN e1 with ⟨_, j, e4, e5⟩ | ⟨m1, e4⟩
  ·rw [mP (by rw [R.n]; trivial), xr] at e3
   split at e3 <;> cases e3
  ·rw [sw ok.nd m1] at e2
   simp at e2
   split at e2 <;> cases e2
 ·intro x i e1 e2
  rw [show (di sc c).scope.names.lookup x = (km sc env).names.lookup x by show (lb sc c).names.lookup x = _; unfold km lb; simp only [R.scope, Ug], Bs] at e2
  rcases nN e1 with ⟨m, j, e4, e5⟩ | ⟨m1, e4⟩
  ·rcases zJ.mp m with q | q
   ·rw [sw ok.nd q] at e2
    simp at e2
   ·obtain ⟨a, ha⟩ := c3 x q
    rcases TI x a ha with ⟨m', q'⟩ | ⟨q1, q2, q3, q4⟩
    ·cases uniq q m'
    ·refine ⟨a, none, ha, q2, fun v hv => ?_⟩
     rw [mP (by rw [R.n]; trivial), xr] at hv
     split at hv <;> cases hv
  ·obtain ⟨a, ov, ha, hc, hv⟩ := R.cells x i e4 (ok.free x m1).2
   refine ⟨a, ov, c4 x a (fun q => by cases uniq q m1) ?_, hc.keeps fun b o e => kK e, fun v YG => ?_⟩
   ·rw [wz, if_pos ⟨m1, by rw [ha]; rfl⟩, ha]
   ·rw [gY (by rw [R.n]; exact R.lt x i e4)] at YG
    obtain ⟨val, q1, q2⟩ := hv v YG
    exact ⟨val, q1, q2.enter jz fun b o e => kK e⟩
 ·refine ⟨aL, fun x i a e1 hi e2 => ?_, Vg⟩
  rcases TI x a e2 with ⟨m, q⟩ | ⟨q1, q2, q3, q4⟩
  ·rcases nN e1 with ⟨m', j, e4, e5⟩ | ⟨m1, e4⟩
   ·rcases zJ.mp m' with q | q <;> cases uniq q m
   ·have := SW m1 e4; trivial
  ·exact q4
end
end
section
section
variable {prog : aG} {w : aE} {cls : aZ} {RY : ao} {A : bm} {σ : Tk} {s : ae} {H H' : AH} {P : cn}
variable {n : Nat} {ev : E -> Loc -> AH -> Option (V × AH)} {k : Nat} {c : TC} {loc : Loc} {env : bH}
theorem MA {elt target iter : Expr} {ifs : List Expr} {scope : cD} {pos : aJ} {it acc : aa} {R : Result -> ae -> Prop} (I : Nat -> ae -> Prop)
  (W9 : ∀ m s, I m s -> ∀ E' : aa -> ae -> Prop, af (am prog w) A (g7 it) (fun r Sd => match r with
   | none => R (.ok .next) Sd
   | some v => af (am prog w) A (xn target it v) (fun u' TK => af (am prog w) A (assign target env v) (fun u' Sp =>
     af (am prog w) A (forIn ifs true fun c r => if r = true then do let ok <-isTrue c env (eval c env); pure (ForInStep.yield ok) else pure (ForInStep.yield r)) (fun ok S6 =>
      if ok = true then af (am prog w) A (eval elt env) (fun x To => af (am prog w) A (call (.builtin "list.append") [acc, x]) (fun u' Uz => ∃ m', m' < m /\ I m' Uz) E' To) E' S6
      else ∃ m', m' < m /\ I m' S6) E' Sp) E' TK) E' Sd) E' s)
  (m : Nat) (h : I m s) : xx (am prog w) A (.compLoop (.ListComp elt [⟨target, iter, ifs, 0⟩] scope pos) 0 it acc env) R s := by
 refine codeAny_loop rfl I (fun m s hI => ?_) m h
 show af _ A ((compTurn (.ListComp elt [⟨target, iter, ifs, 0⟩] scope pos) 0 it acc env).onRaise (fun x => do noteFrame x env; theTreesLotGoes x)) _ _ s
 refine wpAny_noted ?_
 rw [compTurn_list]
 refine ah (m7 (ah (cZ (W9 m s hI _) (fun r Sd Sw => ?_) fun u' u' q => q)))
 cases r with
 | none => exact av Sw
 | some v =>
  refine ah (cZ Sw (fun u' TK V5 => ?_) fun u' u' q => q)
  refine ah (cZ V5 (fun u' Sp TG => ah (cZ TG (fun ok S6 TR => ?_) fun u' u' q => q)) fun u' u' q => q)
  cases ok with
  | false => exact av ⟨rfl, TR⟩
  | true => exact ah (ah (cZ TR (fun x To Tf => ah (cZ Tf (fun u' Uz Xx => av (av ⟨rfl, Xx⟩)) fun u' u' q => q)) fun u' u' q => q))
theorem Ha {ifs : List Expr} {Q : Bool -> ae -> Prop} {E : aa -> ae -> Prop} (h : Q false s) :
  af (am prog w) A (forIn ifs false fun c r => if r = true then do let ok <-isTrue c env (eval c env); pure (ForInStep.yield ok) else pure (ForInStep.yield r)) Q E s := by
 induction ifs with
 | nil => exact av h
 | cons e r ih => rw [js]; exact ah (av ih)
theorem EH (ib : SB prog w cls RY ev n) {t : Bool} : ∀ (ifs : List Expr) (Sh : List E) (b : Bool) (H H' : AH) (σ : Tk) (s : ae) (Q : Bool -> ae -> Prop) (E : aa -> ae -> Prop), aS (ay k c t) ifs = some Sh -> jX ev Sh loc H = some (b, H') -> aR A n -> aA env c loc σ s.heap -> aq prog w cls RY σ H s.heap →
  (∀ RZ s', Nx prog w cls RY σ s RZ H' s' -> Q b s') -> af (am prog w) A (forIn ifs true fun c r => if r = true then do let ok <-isTrue c env (eval c env); pure (ForInStep.yield ok) else pure (ForInStep.yield r)) Q E s := by
 intro ifs
 induction ifs with
 | nil =>
  intro Sh b H H' σ s Q E Sb R9 rm R S h
  rw [iN Sb] at R9
  exact Ll R9 fun e1 e2 => av (e1 ▸ h σ s (e2 ▸ Nx.refl S))
 | cons e r iH =>
  intro Sh b H H' σ s Q E Sb R9 rm R S h
  obtain ⟨e', r', h1, h2, e1⟩ := fb Sb
  rw [e1] at R9
  rw [js]
  refine Mm R9 (fun H1 hx R9 => ah ?_) fun hx e2 => ah ?_
  ·rw [if_pos rfl]
   refine ah (ib k c t e e' loc H true H1 h1 hx A env σ s rm R S _ _ fun R6 s1 N1 => av ?_)
   exact iH r' b H1 H' R6 s1 Q E h2 R9 rm (R.grow N1.grow) N1.sim fun Sf s2 N2 => h Sf s2 (N1.trans N2)
  ·rw [if_pos rfl]
   exact ah (ib k c t e e' loc H false _ h1 hx A env σ s rm R S _ _ fun R6 s1 N1 => av (Ha (e2 ▸ h R6 s1 N1)))
theorem Kl {sc : cD} {Q : bH -> ae -> Prop} {E : aa -> ae -> Prop} (h : Q { scope := sc, locals := s.heap.objs.size, globals := env.globals, cells := rF s.heap sc env, qual := env.qual, func := none, code := env.code, frame := env.frame, builtins := env.builtins } { s with heap := jd s.heap sc }) :
  af (am prog w) A (CX sc env.globals (dC env sc.names []) [] env.qual none .none (some env)) Q E s := by
 simp only [CX, Option.isSome_some, if_true]
 refine ah (wpAny_alloc ?_)
 refine ah (wpAny_layCells _ (fun name kind cells => by cases Uh : kind == NameKind.cell <;> simp [Uh]) _ _ _ _ ?_)
 rw [tN]
 exact ah (av (av h))
theorem Ho {I : ak} {wr : List ak} {g : G} {l : List V} {i : Nat} {tp : Bool} {Q E : aa -> ae -> Prop} (W : dM σ s.heap I wr g l i tp) (h : Q (.ref I) s) : af (am prog w) A (fz (.ref I)) Q E s := by
 cases W with
 | list a b c => exact wpAny_pyIter_listiter a h
 | tuple a b c d e f => exact wpAny_pyIter_tupleiter a h
 | range a b c => exact wpAny_pyIter_rangeiter a h
 | enum a b c d e => exact QA a h
theorem A7 {I : ak} {wr ps : List ak} {g : G} {l : List V} {i : Nat} {tp : Bool} {h h' : ao} (W : dM σ h I wr g l i tp) (hn : ∀ a ∈ ps, h.get? a = none) (k : ∀ b o, h.get? b = some o -> h'.get? b = some o) : dM (σ.own ps) h' I wr g l i tp := by
 have la : ∀ {ax l}, iE σ h ax g l -> iE (σ.own ps) h' ax g l := fun {ax l} L => by
  rcases L with ⟨i, e1, e2⟩ | ⟨e1, e2, us, ⟨o, ho, r⟩, q⟩
  ·exact .inl ⟨i, e1, e2⟩
  ·exact .inr ⟨e1, Tk.own_all e2 fun m => (by rw [hn _ m] at ho; cases ho), us, ⟨o, k _ _ ho, r⟩, q.enter hn k⟩
 cases W with
 | list a b c => exact .list (a.at fun o e => k _ _ e) b (la c)
 | tuple a b c d e f =>
  obtain ⟨o, ho, _⟩ := id d
  exact .tuple (a.at fun o e => k _ _ e) b (Tk.own_all c fun m => (by rw [hn _ m] at ho; cases ho)) (d.at fun o e => k _ _ e) (e.enter hn k) f
 | range a b c => exact .range (k _ _ a) b c
 | enum a b c d e => exact .enum (k _ _ a) (b.at fun o e => k _ _ e) c d (la e)
theorem GX {tg : List Nat} {y : V} {R3 : Loc} {i : Nat} (e : tg = [i]) (hb : iL tg true y loc = some R3) : R3 = loc.set i (some y) := by
 rw [e] at hb; exact (aC hb).symm
theorem N7 {P' : List ak} {lo : Nat} {E : aa -> ae -> Prop} {e : Expr} {tg : List Nat} {one : Bool} {y : V} {v : aa} {R3 : Loc} {Q : Unit -> ae -> Prop} (hA : A.handled = none) (he : jU c e = some (tg, one)) (S9 : ∀ i ∈ tg, lo <= i) (hb : iL tg one y loc = some R3) (O : cN env c P' lo σ)
  (R : aA env c loc σ s.heap) (S : aq prog w cls RY σ H s.heap) (r : VR σ s.heap y v) (h : ∀ s', aX prog w cls RY P' σ s σ H s' -> aA env c R3 σ s'.heap -> Q () s') : af (am prog w) A (assign e env v) Q E s := by
 refine iy he (fun es ht he => bd he fun l h1 h2 => rB ht fun a p et => ?_) fun u' he => bd he fun i h1 h2 => vz h1 fun x p en h1 => ?_
 ·have e1 : l = tg := congrArg (·.1) h2
  have e2 : false = one := congrArg (·.2) h2
  rw [<-e1] at hb S9
  rw [<-e2] at hb
  rw [et]
  exact yE hA h1 S9 hb O R S r h
 ·have e1 : [i] = tg := congrArg (·.1) h2
  have e2 : true = one := congrArg (·.2) h2
  rw [<-e1] at S9
  rw [<-e2] at hb
  rw [en]
  obtain ⟨ht, hk⟩ := rO h1
  exact xl (qp ht hk (S9 i aL) O R S r (GX e1.symm hb ▸ h))
theorem yW {h : ao} {sc : cD} {x : ac} {a : ak} (e : (rF h sc env).lookup x = some a) : env.cells.lookup x = some a \/ a ∈ bt h sc := by
 rcases vg e with q | q
 ·rw [wz] at q
  split at q
  ·exact .inl q
  ·simp at q
 ·exact .inr (aQ _ q)
theorem aX.weak {P' PA : List ak} {σ RZ : Tk} {H' : AH} {sa sb : ae} (hs : ∀ a ∈ P', a ∈ PA) (ht : ∀ a ∈ PA, a ∉ σ.tr) (N : aX prog w cls RY P' σ sa RZ H' sb) : aX prog w cls RY PA σ sa RZ H' sb :=
 ⟨⟨N.grow.pre, fun b o nt np e => N.grow.keep b o nt (fun m => np (hs b m)) e, fun b o m e => by
  by_cases q : b ∈ P'
  ·exact N.grow.own b o q e
  ·exact ⟨o, N.grow.keep b o (ht b m) q e⟩⟩, N.sim, N.gens, N.os⟩
theorem KM {e : Expr} {tg : List Nat} (h : jU c e = some (tg, false)) : fY e = true :=
 iy h (fun es ht h => by unfold fY; rw [ht]; rfl) fun u' h => bd h fun i u' h2 => aY (congrArg (·.2) h2)
structure i5 (prog : aG) (w : aE) (cls : aZ) (RY : ao) (σ : Tk) (s : ae) (RZ : Tk) (H' : AH) (s' : ae) (D C : ak) (cs : List ak) (xs : List V) : Prop where
 pre : ∃ t, RZ = σ.add t /\ ∀ a ∈ t, s.heap.get? a = none
 new : ∀ a ∈ D :: C :: cs, s.heap.get? a = none
 keep : ∀ b o, b ∉ σ.tr -> s.heap.get? b = some o -> s'.heap.get? b = some o
 gens : s'.gens = s.gens
 os : s'.os = s.os
 sim : aq prog w cls RY (RZ.own (D :: C :: cs)) H' s'.heap
 acc : ∃ ys, s'.heap.PlainList D ys /\ an (RZ.own (D :: C :: cs)) s'.heap xs ys.toList
 ns : ∃ m, s'.heap.Ns C m
theorem M9 {a b c : List ak} {x : ak} : x ∈ a ++ (b ++ c) -> x ∈ a \/ x ∈ b \/ x ∈ c := by simp
structure uZ (D : ak) (wr CP PA : List ak) (So : bH) (c' : TC) (lo : Nat) (Su : Tk) : Prop where
 own : cN So c' CP lo Su
 pas : ∀ a ∈ PA, a ∈ Su.pv
 sub1 : ∀ a ∈ CP, a ∈ PA
 sub2 : ∀ a ∈ wr, a ∈ PA
 sub3 : D ∈ PA
 dw : D ∉ wr
 dp : D ∉ CP
 wp : ∀ a ∈ wr, a ∉ CP
 cw : ∀ x a, So.cells.lookup x = some a -> a ∉ wr
 cd : ∀ x a, So.cells.lookup x = some a -> a ∉ [D]
 lw : So.locals ∉ wr
 ld : So.locals ∉ [D]
section
variable {D I : ak} {wr CP PA : List ak} {So : bH} {c' : TC} {lo : Nat} {Su : Tk} {Sj : E} {tg : List Nat} {one tp : Bool} {Sh : List E} {g : G} {items xs : List V} {H2 : AH} {s3 sx : ae}
variable (prog w cls RY ev Sj tg one Sh g items xs H2 D I wr PA So c' Su s3 tp) in
inductive vf (m : Nat) (sx : ae) : Prop
 | mk (i : Nat) (SQ : Tk) (Hc : AH) (TF : Loc) (ys : Array aa) (done Sa : List V) (hm : m = items.length + 1 - i) (hi : i <= items.length) (N : aX prog w cls RY PA Su s3 SQ Hc sx)
   (Rl : aA So c' TF SQ sx.heap) (Wl : dM SQ sx.heap I wr g items i tp) (pl : sx.heap.PlainList D ys) (vr : an SQ sx.heap done ys.toList) (dl : done.length <= i) (ec : ig ev Sj tg one Sh g (items.drop i) TF Hc = some (Sa, H2)) (ex : done ++ Sa = xs)
section
variable {i : Nat} {SQ : Tk} {Hc : AH} {TF : Loc} {ys : Array aa} {done Sa : List V} {elt SR : Expr} {ifs : List Expr} {Z : ae -> Prop} {E' : aa -> ae -> Prop} {m : Nat}
variable (X : uZ D wr CP PA So c' lo Su) (ih : SE prog w cls RY ev n) (ib : SB prog w cls RY ev n) (V9 : jU c' SR = some (tg, one)) (S9 : ∀ i ∈ tg, lo <= i) (hen : one = true -> tp = false) (UN : ay k c' false elt = some Sj) (UL : aS (ay k c' false) ifs = some Sh)
 (rm : aR A n) (hz : items.length < 4096)
include X
theorem uZ.wk {RZ : Tk} {sa sb : ae} {H' : AH} {j : Nat} (Wl : dM SQ sa.heap I wr g items j tp) (UH : SQ.pv = Su.pv) (S : aq prog w cls RY SQ Hc sa.heap) (N : Nx prog w cls RY SQ sa RZ H' sb) : dM RZ sb.heap I wr g items j tp :=
 Wl.grow (N.toP (P := []) S fun a ha => (nomatch ha)).grow (fun a ha => (nomatch ha)) fun a ha => ⟨fun m => (nomatch m), S.apart (UH ▸ X.pas a (X.sub2 a ha))⟩
include ih ib V9 S9 hen UN UL rm hz
theorem Ju (SV : i < items.length) (hm : m = items.length + 1 - i) (N : aX prog w cls RY PA Su s3 SQ Hc sx)
   (Rl : aA So c' TF SQ sx.heap) (Wl : dM SQ sx.heap I wr g items i tp) (pl : sx.heap.PlainList D ys) (vr : an SQ sx.heap done ys.toList) (dl : done.length <= i) (ec : ig ev Sj tg one Sh g (items.drop i) TF Hc = some (Sa, H2)) (ex : done ++ Sa = xs) :
  af (am prog w) A (g7 (.ref I)) (fun r Sd => match r with
   | none => Z Sd
   | some v => af (am prog w) A (xn SR (.ref I) v) (fun u' TK => af (am prog w) A (assign SR So v) (fun u' Sp =>
     af (am prog w) A (forIn ifs true fun c r => if r = true then do let ok <-isTrue c So (eval c So); pure (ForInStep.yield ok) else pure (ForInStep.yield r)) (fun ok S6 =>
      if ok = true then af (am prog w) A (eval elt So) (fun x To => af (am prog w) A (call (.builtin "list.append") [.ref D, x]) (fun u' Uz => ∃ m', m' < m /\ vf prog w cls RY ev D I wr PA So c' Su Sj tg one tp Sh g items xs H2 s3 m' Uz) E' To) E' S6
      else ∃ m', m' < m /\ vf prog w cls RY ev D I wr PA So c' Su Sj tg one tp Sh g items xs H2 s3 m' S6) E' Sp) E' TK) E' Sd) E' sx := by
 have UH : SQ.pv = Su.pv := N.grow.pv
 have VE : ∀ a ∈ PA, a ∈ SQ.pv := fun a ha => UH ▸ X.pas a ha
 have WU : ∀ a ∈ wr, a ∈ SQ.pv := fun a ha => VE a (X.sub2 a ha)
 have VI : ∀ a ∈ PA, a ∉ SQ.tr := fun a ha => N.sim.apart (VE a ha)
 have Oc : cN So c' CP lo SQ := X.own.grow UH
 rw [QE SV] at ec
 have WP : items.length + 1 - (i + 1) < m := by trivial
 have hs : bU g Hc = true := vt ec (fun u' u' u' u' u' hs u' u' u' u' u' => hs) fun u' u' hs u' u' u' => hs
 refine BV (target := SR) Wl N.sim WU hs (bR SV) (fun q => by
   cases one with
   | false => exact KM V9
   | true => exact aY ((hen rfl).symm.trans q)) fun v sa Na rv go => go _ _ fun sb Nb Wb => ?_
 have Vv := Na.trans Nb
 have bind : ∀ {R3 : Loc} {b : Bool} {H3 : AH} {Q : Bool -> ae -> Prop}, iL tg one items[i] TF = some R3 -> jX ev Sh R3 Hc = some (b, H3) →
   (∀ TW se, aX prog w cls RY PA Su s3 TW H3 se -> aA So c' R3 TW se.heap -> dM TW se.heap I wr g items (i + 1) tp -> se.heap.PlainList D ys -> an TW se.heap done ys.toList -> Q b se) →
   af (am prog w) A (assign SR So v) (fun u' Sp => af (am prog w) A (forIn ifs true fun c r => if r = true then do let ok <-isTrue c So (eval c So); pure (ForInStep.yield ok) else pure (ForInStep.yield r)) Q E' Sp) E' sb := fun {R3 b H3 Q} hb ht Tb => by
  refine N7 rm.handled V9 S9 hb Oc (Rl.growP Vv.grow WU X.lw X.cw) Nb.sim (rv.growP Nb.grow WU) fun sd Nd Rd => ?_
  refine EH ib ifs Sh b Hc H3 SQ sd _ _ UL ht rm Rd Nd.sim fun TW se Ne => ?_
  have Wd : dM SQ sd.heap I wr g items (i + 1) tp := Wb.grow Nd.grow Oc.sub fun a ha => ⟨X.wp a ha, VI a (X.sub2 a ha)⟩
  exact Tb TW se (((N.trans (Vv.weak X.sub2 VI)).trans (Nd.weak X.sub1 VI)).trans (Ne.toP Nd.sim VE)) (Rd.grow Ne.grow) (X.wk Wd UH Nd.sim Ne)
   (((pl.at fun o e => Vv.grow.keep _ o (VI _ X.sub3) X.dw e).at fun o e => Nd.grow.keep _ o (VI _ X.sub3) X.dp e).at fun o e => Ne.grow.keep _ o (VI _ X.sub3) e) (((vr.growP Vv.grow WU).growP Nd.grow Oc.sub).grow Ne.grow)
 refine vt ec (fun R3 H3 y H4 VQ u' hb ht ey er e5 => bind hb ht fun TW se No Re We Xk WH => ?_) fun R3 H3 u' hb ht er => bind hb ht fun TW se No Re We Xk WH => ?_
 ·rw [if_pos rfl]
  refine ih k c' false elt Sj R3 H3 y H4 UN ey A _ TW se rm Re No.sim _ _ fun Uq sf vy Nf rf => ?_
  have XJ : TW.pv = Su.pv := No.grow.pv
  have Y5 : ∀ a ∈ PA, a ∈ TW.pv := fun a ha => XJ ▸ X.pas a ha
  have XI : Uq.pv = Su.pv := (Nf.grow.pv).trans XJ
  have Y4 : ∀ a ∈ PA, a ∈ Uq.pv := fun a ha => XI ▸ X.pas a ha
  have ZA : sf.heap.PlainList D ys := Xk.at fun o e => Nf.grow.keep _ o (No.sim.apart (Y5 _ X.sub3)) e
  have dz : ys.size = done.length := WH.size
  refine wpAny_list_append_plain ZA (fun h' SF Tq => ?_) (by rw [cQ]; trivial)
  have Vq : ∀ a ∈ [D], a ∈ Uq.pv := fun a ha => aN.mp ha ▸ Y4 _ X.sub3
  have Ng : aX prog w cls RY [D] Uq sf Uq H4 { sf with heap := h' } := o7 Nf.sim Vq (fun b o nb e => Tq.extBut b o (fun q => nb (aN.mpr q)) e) fun b o nb e => by
   rw [aN.mp nb]; obtain ⟨q, e'⟩ := SF; exact ⟨_, e'⟩
  have Zi : ∀ a ∈ PA, a ∉ Uq.tr := fun a ha => Nf.sim.apart (Y4 a ha)
  refine ⟨_, WP, .mk (i + 1) Uq H4 R3 (ys.push vy) (done ++ [y]) VQ rfl SV ((No.trans (Nf.toP No.sim Y5)).trans (Ng.weak (fun a ha => aN.mp ha ▸ X.sub3) Zi)) ((Re.grow Nf.grow).growP Ng.grow Vq X.ld X.cd)
   ((X.wk We XJ No.sim Nf).grow Ng.grow Vq fun a ha => ⟨fun m => X.dw (aN.mp m ▸ ha), Zi a (X.sub2 a ha)⟩) SF ?_ (by rw [dg]; exact mK dl) er (by rw [fL, <-ex, e5]; rfl)⟩
  rw [CW]
  exact ((WH.grow Nf.grow).append (an.cons rf an.nil)).growP Ng.grow Vq
 ·rw [if_neg aY]
  exact ⟨_, WP, .mk (i + 1) TW H3 R3 ys done Sa rfl SV No Re We Xk WH (CY dl) er ex⟩
end
end
theorem BP (W : Wd P cls RY) (ih : SE prog w cls RY ev n) (ib : SB prog w cls RY ev n) {elt iter SR : Expr} {ifs : List Expr} {sc : cD} {pos : aJ} {SH : It} {Sj : E} {Sh : List E} {tg : List Nat} {one : Bool} {items xs : List V} {g : G} {H1 H2 : AH} {R : ak -> ak -> Result -> ae -> Prop} {E : aa -> ae -> Prop}
  (ok : vL sc c) (V9 : jU (di sc c) SR = some (tg, one)) (S9 : ∀ i ∈ tg, c.n <= i) (hen : one = true -> notEnum SH = true) (hit : gM k c iter = some SH) (UN : ay k (di sc c) false elt = some Sj) (UL : aS (ay k (di sc c) false) ifs = some Sh)
  (e1 : M.Tactic.iter ev SH loc H = some (items, g, H1)) (hz : items.length < 4096) (e2 : ig ev Sj tg one Sh g items (loc ++ fJ (dy sc).length none) H1 = some (xs, H2))
  (rm : aR A n) (Rn : aA env c loc σ s.heap) (S : aq prog w cls RY σ H s.heap) (hR : ∀ RZ s' D C cs, i5 prog w cls RY σ s RZ H2 s' D C cs xs -> R D C (.ok .next) s') :
  af (am prog w) A (eval iter env) (fun x Sd => af (am prog w) A (fz x) (fun it Sp => af (am prog w) A (tF []) (fun acc S6 =>
   af (am prog w) A (CX sc env.globals (dC env sc.names []) [] env.qual none .none (some env)) (fun So To =>
    ∃ D, acc = .ref D /\ xx (am prog w) A (.compStart (.ListComp elt [⟨SR, iter, ifs, 0⟩] sc pos) 0 it acc { So with scope := km sc env }) (R D So.locals) To) E S6) E Sp) E Sd) E s := by
 refine Ah W ih hit e1 rm Rn S fun R6 s1 s2 I wr tp W0 XD => ?_
 refine gZ ?_ (by show (0 : Nat) <= fv; exact dZ _)
 refine Kl ⟨_, rfl, ?_⟩
 have Ww : s2.heap.get? s2.heap.objs.size = none := g0 (bq _)
 generalize hhD : s2.heap.push { cls := .type "list", data := .seq ([] : List aa).toArray } = hD
 have kD : ∀ b o, s2.heap.get? b = some o -> hD.get? b = some o := fun b o e => by rw [<-hhD]; exact br _ e
 have Xl : hD.PlainList s2.heap.objs.size #[] := ⟨0, by rw [<-hhD]; exact cz _ rfl⟩
 have R2 : aA env c loc (R6.own wr) s2.heap := (Rn.grow W0.nx.grow).enter W0.fresh W0.keep
 have nD : ∀ a ∈ [s2.heap.objs.size], s2.heap.get? a = none := fun a ha => by rw [aN.mp ha]; exact Ww
 have RD : aA env c loc ((R6.own wr).own [s2.heap.objs.size]) hD := R2.enter nD kD
 have SD : aq prog w cls RY ((R6.own wr).own [s2.heap.objs.size]) H1 hD := W0.sim.enter nD (by simp) (fun a ha => by rw [aN.mp ha]; obtain ⟨m, e⟩ := Xl; exact ⟨_, e⟩) kD
 obtain ⟨Rc, Oc⟩ := Hd ok RD (fun a ha => SD.there ha)
 have SC := SD.enter (ps := bt hD sc) jz BK Fs fun b o e => kK e
 have WC : dM (((R6.own wr).own [s2.heap.objs.size]).own (bt hD sc)) (jd hD sc) I wr g items 0 tp :=
  A7 (A7 W0.walk nD kD) jz fun b o e => kK e
 have Ue : ∀ a ∈ bt hD sc, s2.heap.get? a = none := fun a ha => by
  cases e : s2.heap.get? a with
  | none => rfl
  | some o => have := jz a ha; rw [kD _ _ e] at this; cases this
 generalize hσ3 : (((R6.own wr).own [s2.heap.objs.size]).own (bt hD sc)) = Su at SC Rc Oc WC
 have Ve : Su.pv = bt hD sc ++ ([s2.heap.objs.size] ++ (wr ++ R6.pv)) := by rw [<-hσ3]; rfl
 have XC : Su.tr = R6.tr := by rw [<-hσ3]; rfl
 generalize hPA : bt hD sc ++ ([s2.heap.objs.size] ++ wr) = PA
 have Wv : ∀ a ∈ PA, a ∈ Su.pv := fun a ha => by
  rw [Ve]; rw [<-hPA] at ha
  simp only [aW] at ha ⊢
  rcases ha with h | h | h
  ·exact .inl h
  ·exact .inr (.inl h)
  ·exact .inr (.inr (.inl h))
 have sub1 : ∀ a ∈ bt hD sc, a ∈ PA := fun a ha => by rw [<-hPA]; exact aV _ ha
 have sub2 : ∀ a ∈ wr, a ∈ PA := fun a ha => by rw [<-hPA]; exact be _ (be _ ha)
 have sub3 : s2.heap.objs.size ∈ PA := by rw [<-hPA]; exact be _ (aV _ aL)
 have UR : ∀ a ∈ wr, ∃ o, s2.heap.get? a = some o := fun a ha => W0.sim.pvs a (aV _ ha)
 have TJ : s2.heap.objs.size ∉ wr := fun m => by obtain ⟨o, e⟩ := UR _ m; rw [Ww] at e; cases e
 have TO : s2.heap.objs.size ∉ bt hD sc := fun m => by obtain ⟨q, e⟩ := Xl; rw [jz _ m] at e; cases e
 have Td : ∀ a ∈ wr, a ∉ bt hD sc := fun a ha m => by obtain ⟨o, e⟩ := UR _ ha; rw [Ue _ m] at e; cases e
 have D' : s2.heap.objs.size = s2.heap.objs.size := rfl
 have TH : ∀ x a, (lf hD sc env).cells.lookup x = some a -> a ∉ wr := fun x a e m => by
  rcases yW e with q | q
  ·obtain ⟨_, _, _, ov, o, ho, _⟩ := (Rn.grow W0.nx.grow).ncell x a q
   rw [W0.fresh a m] at ho; cases ho
  ·exact Td a m q
 have TU : ∀ x a, (lf hD sc env).cells.lookup x = some a -> a ∉ [s2.heap.objs.size] := fun x a e m => by
  rw [aN.mp m] at e
  rcases yW e with q | q
  ·obtain ⟨_, _, _, ov, o, ho, _⟩ := R2.ncell x _ q
   rw [Ww] at ho; cases ho
  ·exact TO q
 have Tp : (lf hD sc env).locals ∉ wr := fun m => Td _ m aL
 have UE : (lf hD sc env).locals ∉ [s2.heap.objs.size] := fun m => TO (by rw [<-aN.mp m]; exact aL)
 have T2 : ∀ b o, s.heap.get? b = some o -> ∃ o', s2.heap.get? b = some o' := fun b o e => by
  by_cases q : b ∈ σ.tr
  ·obtain ⟨t, e1, _⟩ := W0.nx.grow.pre
   obtain ⟨o', e2⟩ := W0.nx.sim.there (a := b) (by rw [e1]; exact aV _ q)
   exact ⟨o', W0.keep _ _ e2⟩
  ·exact ⟨o, W0.keep _ _ (W0.nx.grow.keep b o q e)⟩
 refine (fun loop => codeAny_compStart_list loop (Ho (s := { s2 with heap := jd hD sc }) WC loop)) ?_
 have X : uZ s2.heap.objs.size wr (bt hD sc) PA (lf hD sc env) (di sc c) c.n Su := ⟨Oc, Wv, sub1, sub2, sub3, TJ, TO, Td, TH, TU, Tp, UE⟩
 refine MA (vf prog w cls RY ev s2.heap.objs.size I wr PA (lf hD sc env) (di sc c) Su Sj tg one tp Sh g items xs H2 { s2 with heap := jd hD sc })
  ?_ (items.length + 1) (.mk 0 Su H1 _ #[] [] xs rfl (dZ _) (aX.refl SC) Rc WC (Xl.at fun o e => kK e) an.nil (bq _) e2 rfl)
 rintro m sx ⟨i, SQ, Hc, TF, ys, done, Sa, hm, hi, N, Rl, Wl, pl, vr, dl, ec, ex⟩ E'
 by_cases SV : i < items.length
 ·exact Ju X ih ib V9 S9 (fun h1 => by
   cases tp with
   | false => rfl
   | true => obtain ⟨e', XY⟩ := XD rfl; exact aY ((hen h1).symm.trans (congrArg notEnum XY))) UN UL rm hz SV hm N Rl Wl pl vr dl ec ex
 ·have UH : SQ.pv = Su.pv := N.grow.pv
  have VE : ∀ a ∈ PA, a ∈ SQ.pv := fun a ha => UH ▸ Wv a ha
  have T0 : i = items.length := Cz hi (qL.mp SV)
  rw [T0] at ec Wl
  rw [QF] at ec
  refine zT ec fun hs er eH => ?_
  rw [er, im] at ex
  ·refine yy rm.handled Wl N.sim hs (bq _) fun h' t kk => ?_
   rw [<-eH] at N
   obtain ⟨t1, Vd, Wj⟩ := W0.nx.grow.pre
   obtain ⟨tt, Ur, XK⟩ := N.grow.pre
   have V6 : SQ = (R6.add tt).own PA := by
    rw [Ur, <-hσ3, <-hPA]; simp [Tk.own, Tk.add]
   have nd := N.sim.nodup
   have WN : (bt hD sc ++ ([s2.heap.objs.size] ++ (wr ++ R6.pv))).Nodup := by
    have e : SQ.pv = bt hD sc ++ ([s2.heap.objs.size] ++ (wr ++ R6.pv)) := by rw [UH, Ve]
    unfold Tk.all at nd
    rw [bX, e] at nd
    exact nd.1
   have SL : aq prog w cls RY ((R6.add tt).own (s2.heap.objs.size :: bt hD sc)) H2 h' := by
    have S1 := N.sim
    rw [V6] at S1
    refine S1.leave (τ := (R6.add tt).own (s2.heap.objs.size :: bt hD sc)) (fun b o nb e => kk b o (fun m => nb (sub2 b m)) e) rfl (fun a ha => ?_) ?_ fun a ha => ?_
    ·rcases aW.mp ha with m | m
     ·rcases aP.mp m with q | q
      ·rw [q]; exact aV _ sub3
      ·exact aV _ (sub1 a q)
     ·exact be _ m
    ·show ((s2.heap.objs.size :: bt hD sc) ++ R6.pv).Nodup
     rw [bX] at WN
     obtain ⟨q1, q2, q3⟩ := WN
     rw [bX] at q2
     obtain ⟨q4, q5, q6⟩ := q2
     rw [bX] at q5
     rw [bX, dh]
     refine ⟨⟨TO, q1⟩, q5.2.1, fun x hx y hy e => ?_⟩
     subst e
     rcases aP.mp hx with m | m
     ·exact q6 x (by simp [m]) x (be _ hy) rfl
     ·exact q3 x m x (by simp [hy]) rfl
    ·have key : a ∈ SQ.pv -> a ∉ wr -> ∃ ob, h'.get? a = some ob := fun m1 m2 => by
      obtain ⟨ob, e⟩ := N.sim.pvs a m1
      exact ⟨ob, kk _ _ m2 e⟩
     rcases aW.mp ha with m | m
     ·rcases aP.mp m with q | q
      ·rw [q]; rw [q] at key; exact key (VE _ sub3) TJ
      ·exact key (VE _ (sub1 a q)) fun m2 => Td a m2 q
     ·refine key (by rw [UH, Ve]; exact be _ (be _ (be _ m))) fun m2 => ?_
      have hm : a ∈ R6.pv := m
      rw [bX] at WN
      obtain ⟨_, q2, _⟩ := WN
      rw [bX] at q2
      obtain ⟨_, q5, _⟩ := q2
      rw [bX] at q5
      exact q5.2.2 a m2 a hm rfl
   have Zz : R6.pv = σ.pv := W0.nx.grow.pv
   refine hR (R6.add tt) _ s2.heap.objs.size hD.objs.size (gH (hD.push { cls := .type "dict", data := .dict #[] }).objs.size sc.names) ⟨⟨t1 ++ tt, by rw [Vd]; simp [Tk.add], fun a ha => ?_⟩, fun a ha => ?_, fun b o nb e => ?_, ?_, ?_, SL, ⟨ys, pl.at fun o e => kk _ o TJ e, ?_⟩, ?_⟩
   ·rcases aW.mp ha with m | m
    ·exact Wj a m
    ·cases e : s.heap.get? a with
     | none => rfl
     | some o =>
      obtain ⟨o', e'⟩ := T2 a o e
      have := XK a m
      rw [show ({ s2 with heap := jd hD sc } : ae).heap.get? a = (jd hD sc).get? a from rfl, kK (kD _ _ e')] at this
      cases this
   ·have : s2.heap.get? a = none := by
     rcases aP.mp ha with q | q
     ·rw [q]; exact Ww
     ·exact Ue a q
    cases e : s.heap.get? a with
    | none => rfl
    | some o => obtain ⟨o', e'⟩ := T2 a o e; rw [this] at e'; cases e'
   ·have b1 := W0.nx.grow.keep b o nb e
    have b2 := W0.keep _ _ b1
    have bw : b ∉ wr := fun m => by rw [W0.fresh b m] at b1; cases b1
    refine kk b o bw (N.grow.keep b o ?_ (fun m => ?_) (kK (kD _ _ b2)))
    ·rw [XC]; exact W0.nx.grow.memt nb e
    ·rw [<-hPA] at m
     rcases M9 m with q | q | q
     ·rw [Ue b q] at b2; cases b2
     ·rw [aN.mp q, Ww] at b2; cases b2
     ·exact bw q
   ·exact N.gens.trans (W0.gens.trans W0.nx.gens)
   ·exact N.os.trans (W0.os.trans W0.nx.os)
   ·rw [V6] at vr
    rw [<-ex]
    refine an.leave (σ := R6.add tt) (ps := PA) (τ := (R6.add tt).own (s2.heap.objs.size :: bt hD sc)) (fun a na q => na ?_) (fun u' u' e => e) (fun b o nb e => kk b o (fun m => nb (sub2 b m)) e) vr
    rcases aW.mp q with m | m
    ·refine aV _ ?_
     rcases aW.mp m with m | m
     ·rcases aP.mp m with q | q
      ·rw [q]; exact aV _ sub3
      ·exact aV _ (sub1 a q)
     ·exact be _ m
    ·exact be _ m
   ·obtain ⟨m, hm, _⟩ := Rl.locs
    exact ⟨m, hm.at fun o e => kk _ o Tp e⟩
end
end
section
section
variable {prog : aG} {w : aE} {cls : aZ} {RY : ao} {A : bm} {σ : Tk} {s : ae} {H H' : AH} {P : cn}
variable {n : Nat} {ev : E -> Loc -> AH -> Option (V × AH)} {k : Nat} {c : TC} {loc : Loc} {env : bH}
theorem zF {Sj : E} {tg : List Nat} {one : Bool} {Sh : List E} {g : G} {H2 : AH} : ∀ {items xs : List V} {loc : Loc} {H : AH}, ig ev Sj tg one Sh g items loc H = some (xs, H2) -> xs.length <= items.length := by
 intro items
 induction items with
 | nil =>
  intro xs loc H e
  exact zT e fun u' e u' => by rw [e]; exact bq _
 | cons x r iH =>
  intro xs loc H e
  exact vt e (fun u' u' u' u' u' u' u' u' u' er e => by rw [e]; exact mK (iH er)) fun u' u' u' u' u' er => CY (iH er)
section
variable {RZ : Tk} {s' : ae} {H2 : AH} {D C : ak} {cs : List ak} {xs : List V}
theorem i5.grow (X : i5 prog w cls RY σ s RZ H2 s' D C cs xs) : bM σ s.heap RZ s'.heap := ⟨X.pre, X.keep⟩
theorem i5.dOut (X : i5 prog w cls RY σ s RZ H2 s' D C cs xs) : D ∉ RZ.all /\ C ∉ RZ.all /\ D ≠ C := by
 have nd := X.sim.nodup
 simp only [Tk.all, Tk.own, fL] at nd
 rw [bX] at nd
 obtain ⟨q1, _, q3⟩ := nd
 rw [dh] at q1
 exact ⟨fun m => q3 D aL D m rfl, fun m => q3 C (aQ _ aL) C m rfl, fun e => q1.1 (e ▸ aL)⟩
theorem i5.pvn (X : i5 prog w cls RY σ s RZ H2 s' D C cs xs) : RZ.pv.Nodup := by
 have nd := X.sim.nodup
 simp only [Tk.all, Tk.own, fL] at nd
 rw [bX] at nd
 obtain ⟨_, q2, _⟩ := nd
 rw [bX] at q2
 exact q2.1
theorem i5.pvNot (X : i5 prog w cls RY σ s RZ H2 s' D C cs xs) : ∀ a ∈ RZ.pv, a ∉ D :: C :: cs := fun a ha m => by
 have nd := X.sim.nodup
 simp only [Tk.all, Tk.own, fL] at nd
 rw [bX] at nd
 exact nd.2.2 a m a (aV _ ha) rfl
theorem Fp {t : Bool} {h' : ao} {Q : aa -> ae -> Prop} (X : i5 prog w cls RY σ s RZ H2 s' D C cs xs) (hs : oH C s'.heap h') (hx : xs.length < 100000)
  (h : ∀ Uq sf v, Nx prog w cls RY σ s Uq (bh H2 t xs).2 sf -> VR Uq sf.heap (bh H2 t xs).1 v -> Q v sf) : Q (.ref D) { s' with heap := h' } := by
 obtain ⟨d1, d2, d3⟩ := X.dOut
 obtain ⟨ys, pl, vr⟩ := X.acc
 have k : ∀ b o, b ∉ D :: C :: cs -> s'.heap.get? b = some o -> h'.get? b = some o := fun b o nb e => hs.extBut b o (fun q => nb (by simp [q])) e
 have pl' : h'.PlainList D ys := pl.at fun o e => hs.extBut _ o d3 e
 have he : ∀ a ∈ RZ.pv, ∃ ob, h'.get? a = some ob := fun a ha => by
  obtain ⟨ob, e⟩ := X.sim.pvs a (be _ ha)
  exact ⟨ob, k _ _ (X.pvNot a ha) e⟩
 have hk : ∀ b o, b ∉ σ.tr -> s.heap.get? b = some o -> h'.get? b = some o := fun b o nb e => by
  refine hs.extBut b o (fun q => ?_) (X.keep b o nb e)
  rw [q, X.new C (aQ _ aL)] at e; cases e
 cases t with
 | false =>
  have S1 : aq prog w cls RY RZ H2 h' := X.sim.leave (τ := RZ) k rfl (fun a ha => be _ ha) X.pvn he
  refine h RZ _ _ ⟨⟨X.pre, hk⟩, S1, X.gens, X.os⟩ ?_
  simp only [VR, bh]
  obtain ⟨nn, e⟩ := id pl'
  exact ⟨D, ys, rfl, d1, ⟨_, e, rfl, nn, rfl⟩, hx, an.leave (σ := RZ) (ps := D :: C :: cs) (τ := RZ) (fun a na => Tk.all_own na) (fun u' u' e => e) k vr, .inr pl'⟩
 | true =>
  have hA : ∀ a, a ∉ (RZ.own (D :: C :: cs)).all -> a ∉ (RZ.add [D]).all := fun a na q => by
   have e : (RZ.add [D]).all = RZ.all ++ [D] := by simp [Tk.all, Tk.add]
   rw [e] at q
   rcases aW.mp q with m | m
   ·exact Tk.all_own na m
   ·exact Tk.own_not na (by rw [aN.mp m]; exact aL)
  have hT : ∀ (i : Nat) a, RZ.tr[i]? = some a -> (RZ.add [D]).tr[i]? = some a := fun i a e => by
   rw [Tk.tr_add, gY (bG.mp e).1]; exact e
  have Zr : an (RZ.add [D]) h' xs ys.toList := an.leave (σ := RZ) (ps := D :: C :: cs) hA hT k vr
  have e0 : (RZ.add [D]).all = RZ.all ++ [D] := by simp [Tk.all, Tk.add]
  have Zt : ∀ a ∈ RZ.tr, a ∉ D :: C :: cs := fun a ha m => X.sim.apart (aV _ m) ha
  have Sx : RZ.tr.length = H2.length := X.sim.len
  have S1 : aq prog w cls RY (RZ.add [D]) (H2 ++ [.list xs]) h' := by
   refine ⟨fun b o e => k b o (fun q => ?_) (X.sim.keep b o e), by simp [Tk.tr_add, Sx], fun a ha => ?_, ?_, he, fun i a o e1 e2 => ?_⟩
   ·have := X.sim.fresh b (aV _ (aV _ q)); rw [this] at e; cases e
   ·rw [e0] at ha
    refine X.sim.fresh a ?_
    rcases aW.mp ha with m | m
    ·rcases aW.mp m with m | m
     ·exact aV _ (be _ m)
     ·exact be _ m
    ·rw [aN.mp m]; exact aV _ (aV _ aL)
   ·rw [e0, bX]
    have nd := X.sim.nodup
    simp only [Tk.all, Tk.own, fL] at nd
    rw [bX] at nd
    refine ⟨nd.2.1, by simp, fun x hx y hy e => d1 ?_⟩
    rw [<-aN.mp hy, <-e]; exact hx
   ·rcases rD e1 with q | ⟨q1, q2⟩
    ·rcases rD e2 with u | ⟨u1, u2⟩
     ·exact (X.sim.objs i a o q u).leave hA hT k (Zt a (aT q))
     ·have := (bG.mp q).1
      trivial
    ·subst q2
     rw [q1, Sx] at e2
     simp at e2
     subst e2
     exact ⟨ys, pl', hx, Zr⟩
  refine h (RZ.add [D]) _ _ ⟨⟨?_, hk⟩, S1, X.gens, X.os⟩ ?_
  ·obtain ⟨t, rfl, ht⟩ := X.pre
   refine ⟨t ++ [D], by simp [Tk.add], fun a ha => ?_⟩
   rcases aW.mp ha with m | m
   ·exact ht a m
   ·rw [aN.mp m]; exact X.new D aL
  ·simp only [VR, bh]
   exact ⟨D, by rw [<-Sx]; simp [Tk.add], rfl⟩
end
structure sy (k : Nat) (c : TC) (elt iter SR : Expr) (ifs : List Expr) (sc : cD) (SH : It) (Sj : E) (Sh : List E) (tg : List Nat) (one : Bool) : Prop where
 ok : vL sc c
 tgt : jU (di sc c) SR = some (tg, one)
 lo : ∀ i ∈ tg, c.n <= i
 en : one = true -> notEnum SH = true
 it : gM k c iter = some SH
 elt : ay k (di sc c) false elt = some Sj
 ifs : aS (ay k (di sc c) false) ifs = some Sh
 locs : ∀ x ∈ sc.names, x.2 = .local -> sc.names.lookup x.1 = some .local
theorem B2 {elt SR iter : Expr} {ifs : List Expr} {sc : cD} {tg : List Nat} {one : Bool} {SH : It} {Sj : E} {Sh : List E} (h1 : jU (di sc c) SR = some (tg, one)) (h2 : gM k c iter = some SH) (h3 : ay k (di sc c) false elt = some Sj) (h4 : aS (ay k (di sc c) false) ifs = some Sh) (q : rz c sc tg one SH = true) : sy k c elt iter SR ifs sc SH Sj Sh tg one := by
 obtain ⟨q, q7⟩ := bk.mp q
 obtain ⟨q, q6⟩ := bk.mp q
 obtain ⟨q, q5⟩ := bk.mp q
 obtain ⟨q, q4⟩ := bk.mp q
 obtain ⟨q, q3⟩ := bk.mp q
 obtain ⟨q, q2⟩ := bk.mp q
 obtain ⟨q0, q1⟩ := bk.mp q
 refine ⟨⟨eq_of_beq q1, of_decide_eq_true q6, of_decide_eq_true q5, fun x hx => ?_⟩, h1, fun i hi => of_decide_eq_true (bJ.mp q2 i hi), fun h => ?_, h2, h3, h4, fun x hx hl => ?_⟩
 ·obtain ⟨z1, z2⟩ := bk.mp ((oE.mp (bJ.mp q7 (x, .free) hx)).resolve_left aY)
  exact ⟨oK.mp z1, (oE.mp z2).imp (fun e => eq_of_beq e) fun e => eq_of_beq e⟩
 ·exact (oE.mp q0).resolve_left fun e => by rw [h] at e; exact aY e
 ·exact eq_of_beq ((oE.mp (bJ.mp q3 x hx)).resolve_left fun e => by rw [hl] at e; exact aY e)
theorem v4 {e : Expr} {it : It} (h : gM k c e = some it) : ∀ x, foldedSetIterable e env x = pure x := by
 intro x
 cases k with
 | zero => exact aD h
 | succ k => cases e with
  | Set => exact aD h
  | _ => rfl
theorem FS (W : Wd P cls RY) (ih : SE prog w cls RY ev n) (ib : SB prog w cls RY ev n) {elt iter SR : Expr} {ifs : List Expr} {sc : cD} {pos : aJ} {SH : It} {Sj : E} {Sh : List E} {tg : List Nat} {one t : Bool} {items xs : List V} {g : G} {H1 H2 : AH}
  (T : sy k c elt iter SR ifs sc SH Sj Sh tg one) (e1 : M.Tactic.iter ev SH loc H = some (items, g, H1)) (hz : items.length < 4096) (e2 : ig ev Sj tg one Sh g items (loc ++ fJ (dy sc).length none) H1 = some (xs, H2))
  (rm : aR A n) (Rn : aA env c loc σ s.heap) (S : aq prog w cls RY σ H s.heap) : ct prog w cls RY A (eval (.ListComp elt [⟨SR, iter, ifs, 0⟩] sc pos) env) σ s (bh H2 t xs).1 (bh H2 t xs).2 := fun Q E h => by
 rw [eval_ListComp]
 have Ul : xu sc env = pure (dC env sc.names []) := Co fun x hx => by
  obtain ⟨⟨i, hi⟩, hk⟩ := T.ok.free x hx
  obtain ⟨a, _, ha, _⟩ := Rn.cells x i hi hk
  exact ⟨a, ha⟩
 refine QG (use := none) rfl (v4 T.it) Ul T.ok.fn T.locs ?_
 have Vu := BP (pos := pos) (R := fun D C r s' => compPost (am prog w) A E none Q (.ref D) C r s') (E := E) W ih ib T.ok T.tgt T.lo T.en T.it T.elt T.ifs e1 hz e2 rm Rn S fun RZ s' D C cs X => ?_
 ·refine cZ Vu (fun x Sd Sw => cZ Sw (fun it Sp TG => cZ TG (fun acc S6 TR => cZ TR (fun So To Tf => ?_) fun u' u' q => q) fun u' u' q => q) fun u' u' q => q) fun u' u' q => q
  obtain ⟨D, rfl, Tf⟩ := Tf
  exact Tf
 ·obtain ⟨m, hm⟩ := X.ns
  exact ⟨m, hm, fun h' hs => Fp X hs (by have := zF e2; trivial) h⟩
theorem NS (W : Wd P cls RY) (ih : SE prog w cls RY ev n) (ib : SB prog w cls RY ev n) {elt iter SR : Expr} {ifs : List Expr} {sc : cD} {pos py VM : aJ} {SH : It} {Sj : E} {Sh : List E} {tg : List Nat} {one : Bool} {items xs : List V} {g : G} {H1 H2 : AH} {y : ac} {i : Nat} {PL : List ak}
  (T : sy k c elt iter SR ifs sc SH Sj Sh tg one) (e1 : M.Tactic.iter ev SH loc H = some (items, g, H1)) (hz : items.length < 4096) (e2 : ig ev Sj tg one Sh g items (loc ++ fJ (dy sc).length none) H1 = some (xs, H2))
  (Us : tO (.ListComp elt [⟨SR, iter, ifs, 0⟩] sc pos) (some (.Name y py)) VM.line env = pure true) (hy : jV c (.Name y py) = some i) (O : cN env c PL 0 σ)
  (rm : aR A n) (Rn : aA env c loc σ s.heap) (S : aq prog w cls RY σ H s.heap) {Q : lE -> ae -> Prop} {E : aa -> ae -> Prop} (h : ∀ RZ s', aX prog w cls RY PL σ s RZ H2 s' -> aA env c (loc.set i (some (.lst xs))) RZ s'.heap -> Q .next s') :
  af (am prog w) A (exec (.Assign [.Name y py] (.ListComp elt [⟨SR, iter, ifs, 0⟩] sc pos) VM) env) Q E s := by
 rw [exec_Assign_Name_used _ _ _ _ Us]
 have Ul : xu sc env = pure (dC env sc.names []) := Co fun x hx => by
  obtain ⟨⟨i, hi⟩, hk⟩ := T.ok.free x hx
  obtain ⟨a, _, ha, _⟩ := Rn.cells x i hi hk
  exact ⟨a, ha⟩
 refine ah (m7 (ah ?_))
 show af _ A (do let _ <-comprehension (.ListComp elt [⟨SR, iter, ifs, 0⟩] sc pos) sc env _ (tF []) false (eval iter env) (some (assign (.Name y py) env))) _ _ s
 refine ah (cZ (QG (use := some (assign (.Name y py) env)) (Q := fun u' s' => Q .next s') rfl (v4 T.it) Ul T.ok.fn T.locs ?_) (fun u' s' hq => av (av hq)) fun u' u' e => e)
 have Vu := BP (pos := pos) (R := fun D C r s' => compPost (am prog w) A E (some (assign (.Name y py) env)) (fun u' s' => Q .next s') (.ref D) C r s') (E := E) W ih ib T.ok T.tgt T.lo T.en T.it T.elt T.ifs e1 hz e2 rm Rn S fun RZ s' D C cs X => ?_
 ·refine cZ Vu (fun x Sd Sw => cZ Sw (fun it Sp TG => cZ TG (fun acc S6 TR => cZ TR (fun So To Tf => ?_) fun u' u' q => q) fun u' u' q => q) fun u' u' q => q) fun u' u' q => q
  obtain ⟨D, rfl, Tf⟩ := Tf
  exact Tf
 ·show af _ A (assign (.Name y py) env (.ref D)) _ _ s'
  obtain ⟨d1, d2, d3⟩ := X.dOut
  obtain ⟨ys, pl, vr⟩ := X.acc
  obtain ⟨m, hm⟩ := X.ns
  have Yc : s.heap.get? C = none := X.new C (aQ _ aL)
  have he : ∀ a ∈ RZ.pv, ∃ ob, s'.heap.get? a = some ob := fun a ha => X.sim.pvs a (be _ ha)
  have S1 : aq prog w cls RY (RZ.own [C]) H2 s'.heap := by
   refine X.sim.leave (τ := RZ.own [C]) (fun b o u' e => e) rfl (fun a ha => ?_) ?_ fun a ha => ?_
   ·rcases aW.mp ha with q | q
    ·rw [aN.mp q]; exact aV _ (aQ _ aL)
    ·exact be _ q
   ·show ([C] ++ RZ.pv).Nodup
    rw [List.singleton_append, dh]
    exact ⟨fun q => d2 (aV _ q), X.pvn⟩
   ·rcases aW.mp ha with q | q
    ·rw [aN.mp q]; obtain ⟨o, _, _, e, _⟩ := hm; exact ⟨o, e⟩
    ·exact he a q
  have hA : ∀ a, a ∉ (RZ.own (D :: C :: cs)).all -> a ∉ (RZ.own [C]).all := fun a na q => by
   rcases aW.mp q with q | q
   ·rcases aW.mp q with q | q
    ·exact Tk.own_not na (by rw [aN.mp q]; exact aQ _ aL)
    ·exact Tk.all_own na (aV _ q)
   ·exact Tk.all_own na (be _ q)
  have hD : D ∉ (RZ.own [C]).all := Tk.own_all d1 fun q => d3 (aN.mp q)
  have r : VR (RZ.own [C]) s'.heap (.lst xs) (.ref D) := by
   simp only [VR]
   obtain ⟨nn, e⟩ := id pl
   exact ⟨D, ys, rfl, hD, ⟨_, e, rfl, nn, rfl⟩, by have := zF e2; trivial, an.leave (σ := RZ) (ps := D :: C :: cs) (τ := RZ.own [C]) hA (fun u' u' e => e) (fun b o u' e => e) vr, .inr pl⟩
  have G1 : bM (σ.own [C]) s.heap (RZ.own [C]) s'.heap := ⟨by obtain ⟨t, rfl, ht⟩ := X.pre; exact ⟨t, rfl, ht⟩, X.keep⟩
  have R1 : aA env c loc (RZ.own [C]) s'.heap := (Rn.enter (ps := [C]) (fun a ha => by rw [aN.mp ha]; exact Yc) fun u' u' e => e).grow G1
  obtain ⟨x', p', e, ht, hk⟩ := uO hy
  cases e
  have Ve : RZ.pv = σ.pv := by obtain ⟨t, rfl, ht⟩ := X.pre; rfl
  have PLt : ∀ a ∈ PL, ∃ o, s.heap.get? a = some o := fun a ha => S.pvs a (O.sub a ha)
  have Zl : ∀ a ∈ PL, a ≠ C := fun a ha q => by obtain ⟨o, e⟩ := PLt a ha; rw [q, Yc] at e; cases e
  have O1 : cN env c PL 0 (RZ.own [C]) := ⟨O.loc, O.cell, fun a ha => be _ (by rw [Ve]; exact O.sub a ha)⟩
  refine xl (qp ht hk (dZ _) O1 R1 S1 r fun s2 N2 R2 => ⟨m, hm.at fun o e => N2.grow.keep C o (fun q => d2 (be _ q)) (fun q => Zl C q rfl) e, fun h' hs => ?_⟩)
  have kC : ∀ b o, b ∉ [C] -> s2.heap.get? b = some o -> h'.get? b = some o := fun b o nb e => hs.extBut b o (fun q => nb (by simp [q])) e
  have T8 : ∀ b o, b ∉ σ.tr -> s.heap.get? b = some o -> b ∉ RZ.tr := fun b o nb e => X.grow.memt nb e
  have S2 : aq prog w cls RY RZ H2 h' := N2.sim.leave (τ := RZ) kC rfl (fun a ha => be _ ha) X.pvn fun a ha => by
   obtain ⟨ob, e⟩ := N2.sim.pvs a (be _ ha)
   exact ⟨ob, kC a ob (fun q => d2 (aV _ (by rw [<-aN.mp q]; exact ha))) e⟩
  have lC : ∀ a, a ∈ RZ.pv -> a ∉ [C] := fun a ha q => d2 (aV _ (by rw [<-aN.mp q]; exact ha))
  refine h RZ _ ⟨⟨X.pre, fun b o nb np e => ?_, fun b o np e => ?_⟩, S2, N2.gens.trans X.gens, N2.os.trans X.os⟩ ?_
  ·refine kC b o (fun q => ?_) (N2.grow.keep b o (T8 b o nb e) np (X.keep b o nb e))
   rw [aN.mp q, Yc] at e; cases e
  ·obtain ⟨o', e'⟩ := N2.grow.own b o np (X.keep b o (S.apart (O.sub b np)) e)
   exact ⟨o', kC b o' (fun q => Zl b np (aN.mp q)) e'⟩
  ·refine R2.leave (τ := RZ) (fun a na => Tk.all_own na) (fun u' u' e => e) kC ?_ fun x a e => ?_
   ·have q := Rn.nloc
    have hl : env.locals ∈ RZ.pv := by rw [Ve]; exact q.1
    refine ⟨hl, lC _ hl, ?_⟩
    obtain ⟨o, _, _, e, _⟩ := (Rn.locs).choose_spec.1
    exact T8 _ o q.2 e
   ·obtain ⟨n1, n2, n3, ov, o, e', _⟩ := Rn.ncell x a e
    have hl : a ∈ RZ.pv := by rw [Ve]; exact n1
    exact ⟨hl, lC _ hl, T8 _ o n2 e'⟩
end
end
section
set_option backward.match.sparseCases false
noncomputable def pi (σ : Tk) (h : ao) : Fl -> lE -> Prop
 | .next, f => f = .next
 | .ret v, f => ∃ u, f = .ret u /\ VR σ h v u
def SS (prog : aG) (w : aE) (cls : aZ) (RY : ao) (ex : S -> Loc -> AH -> Option (Fl × Loc × AH)) (n : Nat) : Prop :=
 ∀ k c st st' loc H fl R3 H', wF k c st = some st' -> ex st' loc H = some (fl, R3, H') -> ∀ A env σ s PL, aR A n -> aA env c loc σ s.heap -> aq prog w cls RY σ H s.heap -> cN env c PL 0 σ →
  ∀ (Q : lE -> ae -> Prop) (E : aa -> ae -> Prop), (∀ RZ s' f, aX prog w cls RY PL σ s RZ H' s' -> aA env c R3 RZ s'.heap -> pi RZ s'.heap fl f -> Q f s') -> af (am prog w) A (exec st env) Q E s
section
variable {prog : aG} {w : aE} {cls : aZ} {RY : ao} {A : bm} {σ : Tk} {s : ae} {H H' : AH} {P : cn}
variable {n : Nat} {ev : E -> Loc -> AH -> Option (V × AH)} {ex : S -> Loc -> AH -> Option (Fl × Loc × AH)} {k : Nat} {c : TC} {loc R3 : Loc} {env : bH} {PL : List ak}
theorem EA {st : fZ} {r : List fZ} {l : List S} {G : Prop} (h : iC (k + 1) c (st :: r) = some l) (g : ∀ s' r', wF k c st = some s' -> iC k c r = some r' -> s' :: r' = l -> G) : G :=
 bv h fun s' h1 h => bd h fun r' h2 e => g s' r' h1 h2 e
theorem lW (is : SS prog w cls RY ex n) : ∀ (k : Nat) (Yp : List fZ) (T3 : List S) (loc : Loc) (H : AH) (fl : Fl) (R3 : Loc) (H' : AH) (σ : Tk) (s : ae), iC k c Yp = some T3 -> M.Tactic.execs ex T3 loc H = some (fl, R3, H') -> aR A n -> aA env c loc σ s.heap -> aq prog w cls RY σ H s.heap -> cN env c PL 0 σ →
  ∀ (Q : lE -> ae -> Prop) (E : aa -> ae -> Prop), (∀ RZ s' f, aX prog w cls RY PL σ s RZ H' s' -> aA env c R3 RZ s'.heap -> pi RZ s'.heap fl f -> Q f s') -> af (am prog w) A (PySem.execs Yp env) Q E s := by
 intro k
 induction k with
 | zero =>
  intro _ _ _ _ _ _ _ _ _ Sb _ _ _ _ _
  exact aD Sb
 | succ k iH =>
  intro Se
  cases Se with
  | nil =>
   intro T3 loc H fl R3 H' σ s Sb R9 rm R S O
   exact fun Q E h => by
    rw [<-show [] = T3 from aC Sb] at R9
    exact execs_nil R9 fun e1 e2 e3 => CZ (h σ s .next (e3 ▸ aX.refl S) (e2 ▸ R) (e1 ▸ rfl))
  | cons st r =>
   intro T3 loc H fl R3 H' σ s Sb R9 rm R S O
   exact fun Q E h => by
    refine EA Sb fun st' r' h1 h2 e => wpAny_execs_cons ?_
    rw [<-e] at R9
    refine execs_cons R9 (fun Sc H1 hx R9 => ?_) fun v hx e1 => ?_
    ·refine is k c st st' loc H .next Sc H1 h1 hx A env σ s PL rm R S O _ _ fun R6 s1 f N1 R1 F1 => ?_
     rw [show f = .next from F1]
     exact iH r r' Sc H1 fl R3 H' R6 s1 h2 R9 rm R1 N1.sim (O.grow N1.grow.pv) _ _ fun Sf s2 f N2 R2 F2 => h Sf s2 f (N1.trans N2) R2 F2
    ·refine is k c st st' loc H (.ret v) R3 H' h1 hx A env σ s PL rm R S O _ _ fun R6 s1 f N1 R1 F1 => ?_
     obtain ⟨u, e2, ru⟩ := F1
     rw [e2]
     exact h R6 s1 _ N1 R1 (e1 ▸ ⟨u, rfl, ru⟩)
noncomputable def ww (k : Nat) (c : TC) : List Expr -> List E -> Prop
 | [], es => es = []
 | e :: r, es => ∃ e' r', es = e' :: r' /\ bO e = false /\ (∃ t, ay k c t e = some e') /\ ww k c r r'
theorem GA (ih : SE prog w cls RY ev n) : ∀ (es : List Expr) (Si : List E) (H : AH) (vs : List V) (H' : AH) (σ : Tk) (s : ae) (pos : aJ), ww k c es Si -> cW ev Si loc H = some (vs, H') -> aR A n -> aA env c loc σ s.heap -> aq prog w cls RY σ H s.heap →
  zO prog w cls RY A (lu (gD pos (fK es env))) σ s vs H' := by
 intro es
 induction es with
 | nil =>
  intro Si H vs H' σ s pos Sb R9 rm R S
  rw [show Si = [] from Sb] at R9
  exact qH R9 fun e1 e2 Q E hQ => av (hQ σ s [] (e2 ▸ Nx.refl S) (e1 ▸ an.nil))
 | cons e r iH =>
  intro Si H vs H' σ s pos Sb R9 rm R S
  obtain ⟨e', r', e1, hs, ⟨t, h1⟩, h2⟩ := Sb
  rw [e1] at R9
  refine qB R9 fun x H1 xs hx Xy e2 Q E hQ => ?_
  have key : af (am prog w) A (do
     let v <-eval e env
     let here <-(pure [v] : d8 (List aa))
     return here ++ (<-iR here (lu (gD pos (fK r env))))) Q E s :=
   ah (ih k c t e e' loc H x H1 h1 hx A env σ s rm R S _ _ fun R6 s1 v N1 r1 => ah (av (ah (dS
    (iH r' H1 xs H' R6 s1 pos h2 Xy rm (R.grow N1.grow) N1.sim _ _ fun Sf s2 q N2 r2 =>
     av (hQ Sf s2 (v :: q) (N1.trans N2) (e2 ▸ an.cons (r1.grow N2.grow) r2)))))))
  rw [tj hs]
  exact key
theorem yQ {vs : List Expr} {es : List E} {G : Prop} (h : kF k c [] vs = some es) (g : vs = [] -> es = [] -> G) : G :=
 ku h fun e h => g e (aC h).symm
theorem Bl {t : Expr} {ts vs : List Expr} {es : List E} {G : Prop} (h : kF k c (t :: ts) vs = some es) (g : ∀ v WG e Si, vs = v :: WG -> ay k c (p4 t || isListD v) v = some e -> kF k c ts WG = some Si -> es = e :: Si -> G) : G := by
 cases vs with
 | nil => exact aD h
 | cons v vs => exact bv h fun e h1 h => bd h fun Si h2 h => g v vs e Si rfl h1 h2 h.symm
theorem Oa : ∀ {ts vs : List Expr} {es : List E}, kF k c ts vs = some es -> vs.any bO = false -> ww k c vs es := by
 intro ts
 induction ts with
 | nil =>
  intro vs es h _
  exact yQ h fun e1 e2 => by rw [e1, e2]; exact rfl
 | cons t ts iH =>
  intro vs es h hs
  exact Bl h fun v WG e Si e1 h1 h2 e2 => by
   rw [e1] at hs ⊢
   obtain ⟨s1, s2⟩ := jr.mp hs
   exact ⟨e, Si, e2, s1, ⟨_, h1⟩, iH h2 s2⟩
theorem wQ {t : Expr} {ts : List Expr} (h : bO t = false) : ip (t :: ts) env = (false, assign t env) :: ip ts env := by
 cases t with
 | Starred => exact aY h
 | _ => rfl
theorem NY (B : ∀ c, c < 2 -> jS cls RY c) (ih : SE prog w cls RY ev n) {E : aa -> ae -> Prop} : ∀ (ts : List Expr) (Tw : List Tg) (vs : List V) (items : List aa) (loc : Loc) (H : AH) (σ : Tk) (s : ae) (Q : Unit -> ae -> Prop), aS (fH k c) ts = some Tw -> ts.any bO = false -> stores ev Tw vs loc H = some (R3, H') -> aR A n →
  cN env c PL 0 σ -> aA env c loc σ s.heap -> aq prog w cls RY σ H s.heap -> an σ s.heap vs items -> (∀ RZ s', aX prog w cls RY PL σ s RZ H' s' -> aA env c R3 RZ s'.heap -> Q () s') -> af (am prog w) A (oJ ((ip ts env).map (·.2)) items) Q E s := by
 intro ts
 induction ts with
 | nil =>
  intro Tw vs items loc H σ s Q Sb Sr R9 rm O R S r h
  rw [iN Sb] at R9
  refine Ag R9 fun e1 e2 e3 => ?_
  rw [e1] at r
  rw [show items = [] from r]
  exact av (h σ s (e3 ▸ aX.refl S) (e2 ▸ R))
 | cons t ts iH =>
  intro Tw vs items loc H σ s Q Sb Sr R9 rm O R S r h
  obtain ⟨t', r', h1, h2, e1⟩ := fb Sb
  rw [e1] at R9
  obtain ⟨s1, s2⟩ := jr.mp Sr
  refine zu R9 fun y ws Sc H1 e2 hx R9 => ?_
  rw [e2] at r
  obtain ⟨v, Ss, e3, r1, r2⟩ := r
  rw [wQ s1, e3]
  show af (am prog w) A (do iR Ss (assign t env v); oJ ((ip ts env).map (·.2)) Ss) Q E s
  refine ah (dS (wT B ih rm O R S r1 (fun R6 s1 N1 R1 => ?_) h1 hx))
  exact iH r' ws Ss Sc H1 R6 s1 Q h2 s2 R9 rm (O.grow N1.grow.pv) R1 N1.sim (r2.growP N1.grow O.sub) fun Sf s2 N2 R2 => h Sf s2 (N1.trans N2) R2
theorem Ou : ∀ {ts : List Expr}, ts.any bO = false -> (ip ts env).length = ts.length /\ (ip ts env).findIdx? (·.1) = none := by
 intro ts
 induction ts with
 | nil =>
  intro _
  exact ⟨rfl, rfl⟩
 | cons t ts iH =>
  intro h
  obtain ⟨s1, s2⟩ := jr.mp h
  have ih := iH s2
  rw [wQ s1]
  refine ⟨congrArg (· + 1) ih.1, ?_⟩
  rw [Qc, if_neg aY, ih.2]; rfl
theorem Py {x : V} {i : Nat} : ∀ {l : List Nat} {vs : List V} {loc : Loc}, i ∉ l -> gG l vs (loc.set i (some x)) = (gG l vs loc).set i (some x) := by
 intro l
 induction l with
 | nil =>
  intro vs loc _
  exact rfl
 | cons Se q2' iH =>
  intro T5
  cases T5 with
  | nil =>
   intro loc _
   exact rfl
  | cons v vs =>
   intro loc h
   show gG q2' vs ((loc.set i (some x)).set Se (some v)) = _
   rw [List.set_comm _ _ (fun e : i = Se => h (by rw [e]; exact .head _))]
   exact iH fun m => h (.tail _ m)
theorem EG {x : V} {i : Nat} : ∀ {l : List Nat} {vs : List V} {loc : Loc}, l.length = vs.length -> gG (l ++ [i]) (vs ++ [x]) loc = (gG l vs loc).set i (some x) := by
 intro l
 induction l with
 | nil =>
  intro Se
  cases Se with
  | nil =>
   intro loc _
   exact rfl
  | cons q2' T5 =>
   intro _ h
   exact (nomatch h)
 | cons q4' q5' iH =>
  intro TP
  cases TP with
  | nil =>
   intro _ h
   exact (nomatch h)
  | cons v vs =>
   intro loc h
   exact iH (loc := loc.set q4' (some v)) (gC h)
theorem MQ : ∀ {l : List Nat} {vs : List V} {loc : Loc}, l.Nodup -> l.length = vs.length -> gG l.reverse vs.reverse loc = gG l vs loc := by
 intro l
 induction l with
 | nil =>
  intro Se
  cases Se with
  | nil =>
   intro loc _ _
   exact rfl
  | cons q2' T5 =>
   intro _ _ h
   exact (nomatch h)
 | cons q4' q5' iH =>
  intro TP
  cases TP with
  | nil =>
   intro _ _ h
   exact (nomatch h)
  | cons v vs =>
   intro loc nd h
   obtain ⟨n1, n2⟩ := dh.mp nd
   have h' : q5'.length = vs.length := gC h
   rw [oO, oO, EG (by rw [m9, m9]; exact h'), iH n2 h']
   exact (Py n1).symm
theorem K5 {E : aa -> ae -> Prop} : ∀ (ns : List ac) (l : List Nat) (vs : List V) (items : List aa) (loc : Loc) (s : ae) (Q : Unit -> ae -> Prop), (∀ p ∈ ns.zip l, c.tab.lookup p.1 = some p.2 /\ c.scope.names.lookup p.1 = some .local) -> ns.length = l.length -> vs.length = l.length -> cN env c PL 0 σ →
  aA env c loc σ s.heap -> aq prog w cls RY σ H s.heap -> an σ s.heap vs items -> (∀ s', aX prog w cls RY PL σ s σ H s' -> aA env c (gG l vs loc) σ s'.heap -> Q () s') →
  af (am prog w) A (oJ (ns.map fun n => xy env n) items) Q E s := by
 intro ns
 induction ns with
 | nil =>
  intro l vs items loc s Q he hz hv O R S r h
  rw [ik hz.symm] at h hv
  rw [ik hv] at r h
  rw [show items = [] from r]
  exact av (h s (aX.refl S) R)
 | cons x ns iH =>
  intro l vs items loc s Q he hz hv O R S r h
  cases l with
  | nil => exact nomatch hz
  | cons i l => cases vs with
   | nil => exact nomatch hv
   | cons y vs =>
    obtain ⟨v, Ss, e1, r1, r2⟩ := r
    obtain ⟨h1, h2⟩ := he (x, i) (.head _)
    rw [e1]
    show af (am prog w) A (do iR Ss (xy env x v); oJ (ns.map fun n => xy env n) Ss) Q E s
    refine ah (dS (wpAny_bindName (qp h1 (.inl h2) (dZ _) O R S r1 fun s1 N1 R1 => ?_)))
    exact iH l vs Ss _ s1 Q (fun p hp => he p (.tail _ hp)) (gC hz) (gC hv) O R1 N1.sim (r2.growP N1.grow O.sub) fun s2 N2 R2 => h s2 (N1.trans N2) R2
end
end
section
noncomputable def kG (env : bH) (line : Nat) : Expr -> Option ac
 | .Name id pos => if env.kindOf id == some .local && pos.line == line then some id else none
 | _ => none
noncomputable def fV (ts : List Expr) (env : bH) : List ac := ts.filterMap (kG env ((ts.head?.map (·.pos.line)).getD 0))
theorem Pj {ts vs : List Expr} {a b : Nat} {p q : aJ} {env : bH} (hc : (vs.all (tx 8) && !vs.all (tz 8)) = false) :
  xz [.Tuple ts a p] (.Tuple vs b q) env = pure none \/ (xz [.Tuple ts a p] (.Tuple vs b q) env = pure (some (fV ts env)) /\ (fV ts env).length = ts.length) := by
 have e : ∃ b1 b2 : Bool, xz [.Tuple ts a p] (.Tuple vs b q) env = (if b1 = true then pure none else if b2 = true then pure none else if ((fV ts env).length != ts.length || (fV ts env).eraseDups.length != (fV ts env).length) = true then pure none else
   if vs.all (tz 8) = true then pure none else do
    if vs.all (tx 8) = true then unsupported "assign.tuple-of-constant-expressions:order-of-the-stores"
    return some (fV ts env)) := ⟨_, _, rfl⟩
 obtain ⟨b1, b2, e⟩ := e
 rw [e]
 cases b1 with
 | true => exact .inl (if_pos rfl)
 | false => cases b2 with
  | true => exact .inl ((if_neg aY).trans (if_pos rfl))
  | false =>
   rw [if_neg aY, if_neg aY]
   by_cases h3 : ((fV ts env).length != ts.length || (fV ts env).eraseDups.length != (fV ts env).length) = true
   ·exact .inl (if_pos h3)
   rw [if_neg h3]
   by_cases h4 : vs.all (tz 8) = true
   ·exact .inl (if_pos h4)
   rw [if_neg h4]
   have h5 : ¬ vs.all (tx 8) = true := fun h5 => by
    rw [h5, lq.mpr h4] at hc; exact aY hc
   rw [if_neg h5]
   exact .inr ⟨rfl, QH fun n => aY ((bne_iff_ne.mpr n).symm.trans (og h3).1)⟩
section
variable {prog : aG} {w : aE} {cls : aZ} {RY : ao} {A : bm} {σ : Tk} {s : ae} {H H' : AH} {P : cn}
variable {n : Nat} {ev : E -> Loc -> AH -> Option (V × AH)} {k : Nat} {c : TC} {loc R3 : Loc} {env : bH} {PL : List ak}
theorem JO {line : Nat} {t : Expr} {x : ac} {G : Prop} (h : kG env line t = some x) (g : ∀ p, t = .Name x p -> env.kindOf x = some .local -> G) : G := by
 cases t with
 | Name y p =>
  refine bT h fun q e => ?_
  have e := aC e
  exact g p (by rw [e]) (by rw [<-e]; exact eq_of_beq (bk.mp q).1)
 | _ => exact aD h
theorem Jz (hk : ∀ x, env.kindOf x = c.scope.names.lookup x) {line : Nat} : ∀ {ts : List Expr} {Tw : List Tg}, aS (fH k c) ts = some Tw -> (ts.filterMap (kG env line)).length = ts.length →
  ∃ l, Tw = l.map Tg.name /\ l.length = (ts.filterMap (kG env line)).length /\ (∀ p ∈ (ts.filterMap (kG env line)).zip l, c.tab.lookup p.1 = some p.2 /\ c.scope.names.lookup p.1 = some .local) /\ ts.filterMap (kG env line) = (ts.map rH).flatten := by
 intro ts
 induction ts with
 | nil =>
  intro Tw h _
  exact ⟨[], iN h, rfl, fun u' h => (nomatch h), rfl⟩
 | cons t ts iH =>
  intro Tw h hz
  obtain ⟨t', r', h1, h2, e1⟩ := fb h
  have Vk : (ts.filterMap (kG env line)).length <= ts.length := List.length_filterMap_le _ _
  cases hs : kG env line t with
  | none =>
   rw [List.filterMap_cons_none hs] at hz
   exact absurd (hz ▸ Vk) (xw _)
  | some x =>
   rw [List.filterMap_cons_some hs] at hz ⊢
   obtain ⟨l, el, hl, hp, hn⟩ := iH h2 (gC hz)
   refine JO hs fun p et q => ?_
   rw [et] at h1 ⊢
   refine bd h1 fun i h3 e2 => ?_
   refine ⟨i :: l, by rw [e1, el, <-e2]; rfl, congrArg (· + 1) hl, fun p hp' => ?_, congrArg (x :: ·) hn⟩
   rcases aP.mp hp' with e | hp'
   ·rw [e]; exact ⟨(rO h3).1, by rw [<-hk]; exact q⟩
   ·exact hp p hp'
theorem Lh {ev : E -> Loc -> AH -> Option (V × AH)} : ∀ {l : List Nat} {vs : List V} {loc R3 : Loc} {H H' : AH}, stores ev (l.map Tg.name) vs loc H = some (R3, H') -> vs.length = l.length /\ R3 = gG l vs loc /\ H' = H := by
 intro l
 induction l with
 | nil =>
  intro vs loc R3 H H' h
  exact Ag h fun e1 e2 e3 => ⟨by rw [e1]; rfl, e2, e3⟩
 | cons i l iH =>
  intro vs loc R3 H H' h
  exact zu h fun v ws Sc H1 e h1 h2 => vT h1 fun e1 e2 => by
   obtain ⟨q1, q2, q3⟩ := iH h2
   rw [e]
   exact ⟨congrArg (· + 1) q1, by rw [q2, e1]; rfl, q3.trans e2⟩
theorem an.reverse {h : ao} : ∀ {l : List V} {vs : List aa}, an σ h l vs -> an σ h l.reverse vs.reverse := by
 intro l
 induction l with
 | nil =>
  intro vs r
  rw [show vs = [] from r]; exact an.nil
 | cons x l iH =>
  intro vs r
  obtain ⟨v, q, e, r1, r2⟩ := r
  rw [e, oO, oO]
  exact (iH r2).append (an.cons r1 an.nil)
theorem Lu {α β : Type} {b : β} : ∀ {l : List α} {q : List β}, l.length = q.length -> b ∈ q -> ∃ a, (a, b) ∈ l.zip q := by
 intro l
 induction l with
 | nil =>
  intro Se
  cases Se with
  | nil =>
   intro _ h
   exact (nomatch h)
  | cons q2' T5 =>
   intro h _
   exact (nomatch h)
 | cons q4' q5' iH =>
  intro TP
  cases TP with
  | nil =>
   intro _ h
   exact (nomatch h)
  | cons b' q =>
   intro h m
   rcases aP.mp m with e | m
   ·exact ⟨q4', by rw [e]; exact .head _⟩
   ·obtain ⟨a', h'⟩ := iH (gC h) m
    exact ⟨a', .tail _ h'⟩
theorem FJ : ∀ {ns : List ac} {l : List Nat}, ns.Nodup -> ns.length = l.length -> (∀ p ∈ ns.zip l, c.tab.lookup p.1 = some p.2) -> (∀ x y i, c.tab.lookup x = some i -> c.tab.lookup y = some i -> x = y) -> l.Nodup := by
 intro ns
 induction ns with
 | nil =>
  intro Se
  cases Se with
  | nil =>
   intro _ _ _ _
   exact m8
  | cons q2' T5 =>
   intro _ h _ _
   exact (nomatch h)
 | cons q4' q5' iH =>
  intro TP
  cases TP with
  | nil =>
   intro _ _ _ _
   exact m8
  | cons i l =>
   intro nd hz hp hi
   obtain ⟨n1, n2⟩ := dh.mp nd
   refine dh.mpr ⟨fun m => n1 ?_, iH n2 (gC hz) (fun p h => hp p (.tail _ h)) hi⟩
   obtain ⟨y, hm⟩ := Lu (gC hz) m
   have e : y = q4' := hi _ _ i (hp _ (.tail _ hm)) (hp (q4', i) (.head _))
   rw [<-e]
   exact (C2 hm).1
theorem NU : ∀ {ns : List ac} {l : List Nat}, ns.length = l.length -> ∀ {p : ac × Nat}, p ∈ ns.reverse.zip l.reverse -> p ∈ ns.zip l := by
 intro ns
 induction ns with
 | nil =>
  intro Se
  cases Se with
  | nil =>
   intro _ p h
   exact h
  | cons q2' T5 =>
   intro h _ _
   exact (nomatch h)
 | cons q4' q5' iH =>
  intro TP
  cases TP with
  | nil =>
   intro h _ _
   exact (nomatch h)
  | cons i l =>
   intro hz p h
   have UW : q5'.length = l.length := gC hz
   rw [oO, oO, List.zip_append (by rw [m9, m9]; exact UW)] at h
   rcases aW.mp h with m | m
   ·exact aQ _ (iH UW m)
   ·rw [aN.mp m]; exact .head _
theorem K1 : ∀ {ts vs : List Expr} {es : List M.Tactic.E}, kF k c ts vs = some es -> es.length = vs.length := by
 intro ts
 induction ts with
 | nil =>
  intro vs es h
  exact yQ h fun e1 e2 => by rw [e1, e2]; rfl
 | cons t ts iH =>
  intro vs es h
  exact Bl h fun v WG e Si e1 u' h2 e2 => by rw [e1, e2]; exact congrArg (· + 1) (iH h2)
theorem O3 (B : ∀ c, c < 2 -> jS cls RY c) (ih : SE prog w cls RY ev n) {ts vs : List Expr} {a b : Nat} {p q pos : aJ} {Tw : List Tg} {es : List E} {xs : List V} {H1 : AH} (Vz : vs.any bO = false) (YH : ts.any bO = false) (Sx : ts.length = vs.length)
  (hc : (vs.all (tx 8) && !vs.all (tz 8)) = false) (XO : ((ts.map rH).flatten).Nodup) (h1 : aS (fH k c) ts = some Tw) (h2 : kF k c ts vs = some es) (e1 : cW ev es loc H = some (xs, H1)) (e2 : stores ev Tw xs loc H1 = some (R3, H')) (hz : vs.length < 1000)
  (rm : aR A n) (R : aA env c loc σ s.heap) (S : aq prog w cls RY σ H s.heap) (O : cN env c PL 0 σ) {Q : lE -> ae -> Prop} {E : aa -> ae -> Prop} (h : ∀ RZ s', aX prog w cls RY PL σ s RZ H' s' -> aA env c R3 RZ s'.heap -> Q .next s') :
  af (am prog w) A (qS (.Assign [.Tuple ts a p] (.Tuple vs b q) pos) env) Q E s := by
 have Xz : xs.length = vs.length := by
  have t1 := wu e1
  rw [t1, K1 h2]
 rw [exec_Assign]
 refine ah (m7 ?_)
 have Us : swapsWithSole [.Tuple ts a p] (.Tuple vs b q) pos.line env = pure false := rfl
 rw [Us]
 refine ah (av ?_)
 rw [if_neg (by decide)]
 refine ah (Tuple_ (GA ih vs es H xs H1 σ s q (Oa h2 Vz) e1 rm R S _ _ fun R6 s1 items N1 r1 => ?_))
 have Uj : items.length = xs.length := r1.length.symm
 refine gZ ?_ (by show items.toArray.size <= fv; rw [qM, cQ, Uj, Xz]; exact j5 (Nat.lt_trans hz (by decide)))
 have K : Nx prog w cls RY R6 s1 R6 H1 { s1 with heap := s1.heap.push { cls := .type "tuple", data := .seq items.toArray } } := Nx.of N1.sim (fun b o e => br _ e) rfl rfl
 have hT : oF (s1.heap.push { cls := .type "tuple", data := .seq items.toArray }) s1.heap.objs.size items.toArray := ⟨_, cz _ rfl, rfl, 0, rfl⟩
 have NK := N1.trans K
 rcases Pj (a := a) (b := b) (p := p) (q := q) (env := env) (ts := ts) hc with hw | ⟨hw, WW⟩
 ·rw [hw]
  refine ah (av ?_)
  show af (am prog w) A (do assignAll _ [assign (.Tuple ts a p) env]; pure .next) Q E _
  obtain ⟨z1, z2⟩ := Ou (env := env) YH
  refine ah (Qd rm.handled hT (by rw [z1, Sx, <-Xz, <-Uj, qM]) z2 fun h' hx => ?_)
  have K2 : Nx prog w cls RY R6 { s1 with heap := s1.heap.push { cls := .type "tuple", data := .seq items.toArray } } R6 H1 { s1 with heap := h', toks := s1.toks } := Nx.kept (s := { s1 with heap := s1.heap.push { cls := .type "tuple", data := .seq items.toArray } }) K.sim fun b o e => hx b o (cB (dT e)) e
  have N := NK.trans K2
  refine NY B ih ts Tw xs items loc H1 R6 _ _ h1 YH e2 rm (O.grow N.grow.pv) (R.grow N.grow) N.sim (r1.grow (K.trans K2).grow) fun Sf s2 N2 R2 => av (h Sf s2 ((N.toP S O.sub).trans N2) R2)
 ·rw [hw]
  refine ah (av ?_)
  show af (am prog w) A (do rule "assign.swapped-stores"; let items <-unpackItems _ (fV ts env).length none; oJ ((fV ts env).reverse.map fun n => xy env n) items.reverse; pure .next) Q E _
  have Vl : ∀ x, env.kindOf x = c.scope.names.lookup x := fun x => by unfold qN; rw [R.scope]
  obtain ⟨l, el, hl, hp, hn⟩ := Jz Vl h1 WW
  rw [el] at e2
  obtain ⟨y1, y2, y3⟩ := Lh e2
  have Tn : (fV ts env).length = items.toArray.size := by rw [WW, Sx, <-Xz, <-Uj, qM]
  rw [Tn]
  refine ah (xA (ah (unpackItems_tuple rm.handled hT fun h' hx => ?_)))
  have K2 : Nx prog w cls RY R6 { s1 with heap := s1.heap.push { cls := .type "tuple", data := .seq items.toArray } } R6 H1 { s1 with heap := h', toks := s1.toks } := Nx.kept (s := { s1 with heap := s1.heap.push { cls := .type "tuple", data := .seq items.toArray } }) K.sim fun b o e => hx b o (cB (dT e)) e
  have N := NK.trans K2
  have XR : (fV ts env).length = l.length := hl.symm
  have ZI : l.Nodup := by
   refine FJ (c := c) (ns := fV ts env) ?_ XR (fun p h => (hp p h).1) R.inj
   show (ts.filterMap _).Nodup
   rw [hn]; exact XO
  have rr : an R6 h' xs items := r1.grow (K.trans K2).grow
  refine ah (K5 (fV ts env).reverse l.reverse xs.reverse _ loc _ _ (fun p h => hp p (NU XR h)) (by rw [m9, m9]; exact XR) (by rw [m9, m9]; exact y1) (O.grow N.grow.pv) (R.grow N.grow) N.sim rr.reverse fun s2 N2 R2 => av (h R6 s2 (y3 ▸ (N.toP S O.sub).trans N2) ?_))
  rw [MQ ZI y1.symm, <-y2] at R2
  exact R2
end
end
section
set_option backward.match.sparseCases false
structure kW (prog : aG) (w : aE) (cls : aZ) (RY : ao) (P : cn) (n : Nat) : Prop where
 e : SE prog w cls RY (I P n).eval n
 b : SB prog w cls RY (I P n).eval n
 s : SS prog w cls RY (I P n).exec n
 c : SC prog w cls RY (I P n).call n
section
variable {prog : aG} {w : aE} {cls : aZ} {RY : ao} {A : bm} {σ : Tk} {s : ae} {H H' : AH} {P : cn}
variable {n : Nat} {k : Nat} {c : TC} {loc R3 : Loc} {env : bH} {PL : List ak}
theorem Cb {v : Expr} {o : Option Expr} {l : Nat} (h : qG v = false) : tO v o l env = pure false := by
 cases v <;> first | rfl | cases h
inductive xZ (k : Nat) (c : TC) (t : Bool) (v : Expr) (e' : E) : Prop
 | mk (elt SR iter : Expr) (ifs : List Expr) (sc : cD) (pos : aJ) (Sj : E) (tg : List Nat) (one : Bool) (SH : It) (Sh : List E) (ev : v = .ListComp elt [⟨SR, iter, ifs, 0⟩] sc pos) (ee : e' = .comp t Sj tg one SH Sh c.n (dy sc).length) (T : sy k c elt iter SR ifs sc SH Sj Sh tg one)
theorem JZ {v : Expr} {t : Bool} {e' : E} (h : ay (k + 1) c t v = some e') (hc : qG v = true) : xZ k c t v e' := by
 have key : ∀ v0, v = v0 -> ay (k + 1) c t v0 = some e' -> qG v0 = true -> xZ k c t v e' := fun v0 hv h hc => by
  cases v0 with
  | ListComp elt gens sc p => exact yP h fun tg it ifs UT one SH Sj Sh eg e3 e4 e5 e6 q e => ⟨_, _, _, _, _, _, _, _, _, _, _, eg ▸ hv, e.symm, B2 e3 e4 e5 e6 q⟩
  | SetComp => exact aD h
  | DictComp => exact aD h
  | _ => exact aY hc
 exact key v rfl h hc
theorem I9 {t : Expr} {t' : Tg} (h : fH k c t = some t') : bO t = false := by
 cases t with
 | Starred => exact aD h
 | _ => rfl
theorem GU {t v : Expr} {t' : Tg} (h : fH k c t = some t') (Ur : ¬ (fY t = true /\ fY v = true)) : xz [t] v env = pure none := by
 cases t with
 | Tuple => cases v with
  | Tuple => exact absurd ⟨rfl, rfl⟩ Ur
  | _ => rfl
 | Starred => exact aD h
 | List => exact aD h
 | _ => rfl
theorem z8 {t v : Expr} {pos : aJ} {t' : Tg} {v' : E} {y : V} {H1 : AH} {fl : Bool} {ev : E -> Loc -> AH -> Option (V × AH)} (B : ∀ c, c < 2 -> jS cls RY c) (ih : SE prog w cls RY ev n) (Us : tO v (some t) pos.line env = pure false) (Ur : ¬ (fY t = true /\ fY v = true))
  (h1 : fH k c t = some t') (h2 : ay k c fl v = some v') (e1 : ev v' loc H = some (y, H1)) (e2 : store ev t' y loc H1 = some (R3, H')) (rm : aR A n) (R : aA env c loc σ s.heap) (S : aq prog w cls RY σ H s.heap) (O : cN env c PL 0 σ)
  {Q : lE -> ae -> Prop} {E : aa -> ae -> Prop} (h : ∀ RZ s', aX prog w cls RY PL σ s RZ H' s' -> aA env c R3 RZ s'.heap -> Q .next s') : af (am prog w) A (qS (.Assign [t] v pos) env) Q E s := by
 rw [exec_Assign]
 refine ah (m7 ?_)
 rw [show swapsWithSole [t] v pos.line env = pure false from Us]
 refine ah (av ?_)
 rw [if_neg (by decide)]
 refine ah (ih k c fl v v' loc H y H1 h2 e1 A env σ s rm R S _ _ fun R6 s1 u N1 r1 => ?_)
 rw [GU h1 Ur]
 refine ah (av ?_)
 rw [show ip [t] env = [(false, assign t env)] from wQ (I9 h1)]
 show af (am prog w) A (do assignAll u [assign t env]; pure .next) Q E s1
 exact ah (wT B ih rm (O.grow N1.grow.pv) (R.grow N1.grow) N1.sim r1 (fun Sf s2 N2 R2 => av (h Sf s2 ((N1.toP S O.sub).trans N2) R2)) h1 e2)
theorem ON (W : Wd P cls RY) (SA : ∀ m, m <= n -> kW prog w cls RY P m) {t v : Expr} {pos : aJ} {t' : Tg} {v' : E} {y : V} {H1 : AH} (Ur : ¬ (fY t = true /\ fY v = true)) (h1 : fH k c t = some t') (h2 : ay k c (p4 t || isListD v) v = some v') (e1 : (I P n).eval v' loc H = some (y, H1)) (e2 : store (I P n).eval t' y loc H1 = some (R3, H'))
  (rm : aR A n) (R : aA env c loc σ s.heap) (S : aq prog w cls RY σ H s.heap) (O : cN env c PL 0 σ) {Q : lE -> ae -> Prop} {E : aa -> ae -> Prop} (h : ∀ RZ s', aX prog w cls RY PL σ s RZ H' s' -> aA env c R3 RZ s'.heap -> Q .next s') :
  af (am prog w) A (qS (.Assign [t] v pos) env) Q E s := by
 have ih := (SA n (bq _)).e
 by_cases hc : qG v = true
 ·cases k with
  | zero => exact aD h2
  | succ k =>
  obtain ⟨elt, SR, iter, ifs, sc, Yk, Sj, tg, one, SH, Sh, ev, ee, T⟩ := JZ h2 hc
  have plain : tO v (some t) pos.line env = pure false -> af (am prog w) A (qS (.Assign [t] v pos) env) Q E s := fun Us => z8 W.B ih Us Ur h1 h2 e1 e2 rm R S O h
  rw [ev] at plain
  cases t with
  | Name x px =>
   obtain ⟨b, Us⟩ : ∃ b, tO (.ListComp elt [⟨SR, iter, ifs, 0⟩] sc Yk) (some (.Name x px)) pos.line env = pure b := ⟨_, rfl⟩
   cases b with
   | false => rw [ev]; exact plain Us
   | true =>
    refine bd h1 fun i h3 ei => ?_
    rw [<-ei] at e2
    cases n with
    | zero => exact (dH ((jg P 0).1 v' loc H) e1).elim
    | succ n =>
     rw [ee] at e1
     refine cU e1 _ fun items g xs H2 H3 hit hq1 Z4 SO ey eh => vT e2 fun el eH => ?_
     rw [ev] at ey eh ⊢
     have hm := SA n (io _)
     refine NS W hm.e hm.b T hit Z4 SO Us h3 O (rm.le (io _)) R S ?_
     rw [el, ey, eH, eh] at h
     exact h
  | _ => rw [ev]; exact plain rfl
 ·exact z8 W.B ih (Cb (lq.mpr hc)) Ur h1 h2 e1 e2 rm R S O h
theorem Hb {t : Expr} {l : List Nat} (h : fH k c t = some (.names l)) : fY t = true :=
 zj h (fun u' u' u' u' u' e => nomatch e) (fun es a p u' e u' u' => by rw [e]; rfl) (fun u' u' u' u' u' u' u' u' e => nomatch e) fun u' u' u' u' u' u' u' u' u' e => nomatch e
theorem jy.out {I : ak} {wr : List ak} {g : G} {items : List V} {R6 : Tk} {H1 : AH} {s1 s2 : ae} {tp : Bool} (W0 : jy prog w cls RY σ s g items R6 H1 s1 s2 I wr tp) : ∀ a ∈ wr, s.heap.get? a = none := fun a ha => by
 cases e : s.heap.get? a with
 | none => rfl
 | some o =>
  have h0 := W0.fresh a ha
  by_cases q : a ∈ σ.tr
  ·obtain ⟨tt, e1, _⟩ := W0.nx.grow.pre
   obtain ⟨o', e2⟩ := W0.nx.sim.there (a := a) (by rw [e1]; exact aV _ q)
   exact aD (h0.symm.trans e2)
  ·exact aD (h0.symm.trans (W0.nx.grow.keep a o q e))
section
variable {I : ak} {wr : List ak} {g : G} {items : List V} {R6 : Tk} {H1 : AH} {s1 s2 : ae} {tp : Bool}
theorem yn (W0 : jy prog w cls RY σ s g items R6 H1 s1 s2 I wr tp) (R : aA env c loc σ s.heap) (S : aq prog w cls RY σ H s.heap) (O : cN env c PL 0 σ) {S5 : Tk} {Hx : AH} {SJ : Loc} {sx : ae} {h' : ao} {tk : Nat} (N : aX prog w cls RY (wr ++ PL) (R6.own wr) s2 S5 Hx sx) (Rx : aA env c SJ S5 sx.heap) (kk : ∀ b o, b ∉ wr -> sx.heap.get? b = some o -> h'.get? b = some o) :
  ∃ U5, aX prog w cls RY PL σ s U5 Hx { sx with heap := h', toks := tk } /\ aA env c SJ U5 h' /\ (∀ x v, VR S5 sx.heap x v -> VR U5 h' x v) := by
 have Vy := W0.out
 have WK : R6.pv = σ.pv := W0.nx.grow.pv
 obtain ⟨tt, ht, hn⟩ := N.grow.pre
 have V7 : S5 = (R6.add tt).own wr := ht
 clear ht
 subst V7
 have nd := N.sim.nodup
 obtain ⟨n1, _, _⟩ := bX.mp nd
 obtain ⟨_, n2, n3⟩ := bX.mp n1
 have Zy : ∀ a ∈ (R6.add tt).pv, a ∉ wr := fun a ha m => n3 a m a ha rfl
 have S' : aq prog w cls RY (R6.add tt) Hx h' := N.sim.leave (τ := R6.add tt) kk rfl (fun a ha => be _ ha) n2 fun a ha => by
  obtain ⟨ob, e⟩ := N.sim.pvs a (be _ ha)
  exact ⟨ob, kk _ _ (Zy a ha) e⟩
 have out : ∀ a, a ∉ ((R6.add tt).own wr).all -> a ∉ (R6.add tt).all := fun a na => Tk.all_own na
 obtain ⟨t1, Vd, Wj⟩ := W0.nx.grow.pre
 have up : ∀ b o, b ∉ σ.tr -> s.heap.get? b = some o -> s2.heap.get? b = some o /\ b ∉ R6.tr /\ b ∉ wr := fun b o nb e => ⟨W0.keep _ _ (W0.nx.grow.keep b o nb e), W0.nx.grow.memt nb e, fun m => aD ((Vy b m).symm.trans e)⟩
 refine ⟨R6.add tt, ⟨⟨⟨t1 ++ tt, by rw [Vd]; simp [Tk.add], fun a ha => ?_⟩, fun b o nb np e => ?_, fun b o np e => ?_⟩, S', N.gens.trans (W0.gens.trans W0.nx.gens), N.os.trans (W0.os.trans W0.nx.os)⟩, ?_, fun x v r => VR.leave (σ := R6.add tt) (ps := wr) (τ := R6.add tt) out (fun u' u' e => e) kk r⟩
 ·rcases aW.mp ha with m | m
  ·exact Wj a m
  ·cases e : s.heap.get? a with
   | none => rfl
   | some o =>
    have h2 := hn a m
    by_cases q : a ∈ σ.tr
    ·obtain ⟨o', e2⟩ := W0.nx.sim.there (a := a) (by rw [Vd]; exact aV _ q)
     exact aD (h2.symm.trans (W0.keep _ _ e2))
    ·exact aD (h2.symm.trans (up a o q e).1)
 ·obtain ⟨u1, u2, u3⟩ := up b o nb e
  exact kk b o u3 (N.grow.keep b o u2 (fun m => (aW.mp m).elim u3 np) u1)
 ·obtain ⟨u1, u2, u3⟩ := up b o (S.apart (O.sub b np)) e
  obtain ⟨o', e'⟩ := N.grow.own b o (be _ np) u1
  exact ⟨o', kk b o' u3 e'⟩
 ·refine Rx.leave (τ := R6.add tt) out (fun u' u' e => e) kk ⟨by show _ ∈ R6.pv; rw [WK]; exact R.nloc.1, fun m => ?_, Rx.nloc.2⟩ fun x a e => ⟨by show _ ∈ R6.pv; rw [WK]; exact (R.ncell x a e).1, fun m => ?_, (Rx.ncell x a e).2.1⟩
  ·obtain ⟨o, e⟩ := S.pvs _ R.nloc.1; exact aD ((Vy _ m).symm.trans e)
  ·obtain ⟨o, e⟩ := S.pvs _ (R.ncell x a e).1; exact aD ((Vy _ m).symm.trans e)
inductive DM (prog : aG) (w : aE) (cls : aZ) (RY : ao) (ev : E -> Loc -> AH -> Option (V × AH)) (b : Loc -> AH -> Option (Fl × Loc × AH)) (t' : Tg) (g : G) (items : List V) (fl : Fl) (R3 : Loc) (H' : AH) (PA wr : List ak) (env : bH) (c : TC) (Su : Tk) (s3 : ae) (I : ak) (tp : Bool) (m : Nat) (sx : ae) : Prop
 | mk (i : Nat) (S5 : Tk) (Hx : AH) (SJ : Loc) (hm : m = items.length + 1 - i) (hi : i <= items.length) (N : aX prog w cls RY PA Su s3 S5 Hx sx) (Rx : aA env c SJ S5 sx.heap) (Wx : dM S5 sx.heap I wr g items i tp) (ef : nM ev b t' g (items.drop i) SJ Hx = some (fl, R3, H'))
end
theorem Fc (W : Wd P cls RY) {ev : E -> Loc -> AH -> Option (V × AH)} {ex : S -> Loc -> AH -> Option (Fl × Loc × AH)} (ih : SE prog w cls RY ev n) (is : SS prog w cls RY ex n) {t it : Expr} {body : List fZ} {pos : aJ} {t' : Tg} {SH : It} {b' : List S} {items : List V} {g : G} {H1 : AH} {fl : Fl}
  (h1 : fH k c t = some t') (h2 : gM k c it = some SH) (h3 : iC k c body = some b') (hen : (∃ l, t' = .names l) \/ notEnum SH = true) (e1 : M.Tactic.iter ev SH loc H = some (items, g, H1)) (e2 : nM ev (M.Tactic.execs ex b') t' g items loc H1 = some (fl, R3, H'))
  (rm : aR A n) (R : aA env c loc σ s.heap) (S : aq prog w cls RY σ H s.heap) (O : cN env c PL 0 σ) {Q : lE -> ae -> Prop} {E : aa -> ae -> Prop} (h : ∀ RZ s' f, aX prog w cls RY PL σ s RZ H' s' -> aA env c R3 RZ s'.heap -> pi RZ s'.heap fl f -> Q f s') :
  af (am prog w) A (qS (.For t it body [] pos) env) Q E s := by
 refine wpAny_For (Ah W ih h2 e1 rm R S fun R6 s1 s2 I wr tp W0 XD => ?_) (v4 h2)
 have hT : tp = true -> fY t = true := fun q => by
  obtain ⟨e', XY⟩ := XD q
  rcases hen with ⟨l, el⟩ | hen
  ·exact Hb (el ▸ h1)
  ·rw [XY] at hen; exact aY hen
 have Vy := W0.out
 have Yo : ∀ a ∈ PL, a ∉ wr := fun a ha m => by obtain ⟨o, e⟩ := S.pvs a (O.sub a ha); exact aD ((Vy a m).symm.trans e)
 have Wz : ∀ x a, env.cells.lookup x = some a -> a ∉ wr := fun x a e m => by
  obtain ⟨o, e⟩ := S.pvs _ (R.ncell x a e).1; exact aD ((Vy _ m).symm.trans e)
 have WK : R6.pv = σ.pv := W0.nx.grow.pv
 have O0 : cN env c PL 0 (R6.own wr) := ⟨O.loc, O.cell, fun a ha => be _ (by rw [WK]; exact O.sub a ha)⟩
 refine codeAny_forLoop_any (DM prog w cls RY ev (M.Tactic.execs ex b') t' g items fl R3 H' (wr ++ PL) wr env c (R6.own wr) s2 I tp) ?_ (items.length + 1) (.mk 0 _ H1 loc rfl (dZ _) (aX.refl W0.sim) ((R.grow W0.nx.grow).enter W0.fresh W0.keep) W0.walk e2)
 rintro m sx ⟨i, S5, Hx, SJ, hm, hi, N, Rx, Wx, ef⟩
 have YL : S5.pv = wr ++ R6.pv := N.grow.pv
 have WS : ∀ a ∈ wr, a ∈ S5.pv := fun a ha => by rw [YL]; exact aV _ ha
 have Ox : cN env c PL 0 S5 := O0.grow N.grow.pv
 have Yn : ∀ a ∈ wr ++ PL, a ∉ S5.tr := fun a ha => N.sim.apart ((aW.mp ha).elim (WS a) (Ox.sub a))
 by_cases SV : i < items.length
 ·rw [QE SV] at ef
  have hs : bU g Hx = true := Ad ef (fun u' u' u' u' hs u' u' u' => hs) fun u' u' u' hs u' u' u' => hs
  refine BV (target := t) Wx N.sim WS hs (bR SV) hT fun v sa Na rv go => go _ _ fun sb Nb Wb => ?_
  have Vv := Na.trans Nb
  have WP : items.length + 1 - (i + 1) < m := by trivial
  have bind : ∀ {Sc : Loc} {H2 : AH} {Q : Unit -> ae -> Prop} {E : aa -> ae -> Prop}, store ev t' items[i] SJ Hx = some (Sc, H2) -> (∀ Sf s4, cN env c PL 0 Sf -> aA env c Sc Sf s4.heap -> aq prog w cls RY Sf H2 s4.heap →
    (∀ {H3 : AH} {Su : Tk} {s5 : ae}, aX prog w cls RY PL Sf s4 Su H3 s5 -> aX prog w cls RY (wr ++ PL) (R6.own wr) s2 Su H3 s5 /\ dM Su s5.heap I wr g items (i + 1) tp) -> Q () s4) -> af (am prog w) A (assign t env v) Q E sb := fun {Sc H2 Q E} Sr Tb =>
   wT W.B ih rm Ox (Rx.growP Vv.grow WS (Yo _ O.loc) Wz) Nb.sim (rv.growP Nb.grow WS) (fun Sf s4 N4 R4 => by
    have O4 : cN env c PL 0 Sf := Ox.grow N4.grow.pv
    have Vf : Sf.pv = wr ++ R6.pv := N4.grow.pv.trans YL
    have cv : ∀ a ∈ wr ++ PL, a ∉ Sf.tr := fun a ha => N4.sim.apart ((aW.mp ha).elim (fun q => by rw [Vf]; exact aV _ q) (O4.sub a))
    exact Tb Sf s4 O4 R4 N4.sim fun N5 => ⟨((N.trans (Vv.weak (PA := wr ++ PL) (fun a ha => aV _ ha) Yn)).trans (N4.weak (fun a ha => be _ ha) Yn)).trans (N5.weak (fun a ha => be _ ha) cv),
     (Wb.grow N4.grow Ox.sub fun a ha => ⟨fun m => Yo a m ha, Yn a (aV _ ha)⟩).grow N5.grow O4.sub fun a ha => ⟨fun m => Yo a m ha, cv a (aV _ ha)⟩⟩) h1 Sr
  refine Ad ef (fun Sc H2 SY H3 u' Sr hb ef => bind Sr fun Sf s4 O4 R4 S4 after => ?_) fun Sc H2 v' u' Sr hb e => bind Sr fun Sf s4 O4 R4 S4 after => ?_
  ·refine lW is k body b' Sc H2 .next SY H3 Sf s4 h3 hb rm R4 S4 O4 _ _ fun Su s5 f N5 R5 F5 => ?_
   rw [show f = .next from F5]
   exact ⟨_, WP, .mk (i + 1) Su H3 SY rfl SV (after N5).1 R5 (after N5).2 ef⟩
  ·refine lW is k body b' Sc H2 (.ret v') R3 H' Sf s4 h3 hb rm R4 S4 O4 _ _ fun Su s5 f N5 R5 F5 => ?_
   obtain ⟨u, ef, ru⟩ := F5
   obtain ⟨U5, Ny, Ry, up⟩ := yn W0 R S O (h' := s5.heap) (tk := s5.toks) (after N5).1 R5 fun b o u' e => e
   rw [ef]
   exact h U5 s5 (.ret u) Ny Ry (e ▸ ⟨u, rfl, up _ _ ru⟩)
 ·have T0 : i = items.length := Cz hi (qL.mp SV)
  rw [T0] at ef Wx
  rw [QF] at ef
  refine He ef fun hs ef el eH => yy rm.handled Wx N.sim hs (bq _) fun h' t kk => CZ ?_
  obtain ⟨U5, Ny, Ry, up⟩ := yn W0 R S O (h' := h') (tk := t) N Rx kk
  exact h U5 _ .next (eH ▸ Ny) (el ▸ Ry) (ef ▸ rfl)
end
end
section
section
variable {prog : aG} {w : aE} {cls : aZ} {RY : ao} {A : bm} {σ : Tk} {s : ae} {H H' : AH} {P : cn}
variable {n : Nat} {k : Nat} {c : TC} {loc R3 : Loc} {env : bH} {PL : List ak}
inductive LC (prog : aG) (w : aE) (cls : aZ) (RY : ao) (P : cn) (n : Nat) (t' : E) (b' : List S) (fl : Fl) (R3 : Loc) (H' : AH) (PL : List ak) (env : bH) (c : TC) (σ : Tk) (s : ae) (m : Nat) (sx : ae) : Prop
 | mk (hm : m <= n + 1) (S5 : Tk) (Hx : AH) (SJ : Loc) (ex : (I P m).exec (.whil t' b') SJ Hx = some (fl, R3, H')) (N : aX prog w cls RY PL σ s S5 Hx sx) (Rx : aA env c SJ S5 sx.heap)
theorem Go {t' : E} {b' : List S} {fl : Fl} {r : hY} {G : Prop} (h : mf (iM r) (.whil t' b') loc H (jf fl R3 H')) (g : ∀ H1 SY H2, r.eval t' loc H = some (.bool true, H1) -> M.Tactic.execs r.exec b' loc H1 = some (.next, SY, H2) -> r.exec (.whil t' b') SY H2 = some (fl, R3, H') -> G)
  (k : ∀ H1 v, r.eval t' loc H = some (.bool true, H1) -> M.Tactic.execs r.exec b' loc H1 = some (.ret v, R3, H') -> fl = .ret v -> G) (k' : r.eval t' loc H = some (.bool false, H') -> fl = .next -> R3 = loc -> G) : G :=
 bz h fun x H1 ht z => mw z fun q eq z => by
  rw [eq] at ht
  cases q with
  | true =>
   refine BM (show bY (om r.exec) b' loc H1 (dn (fun l H Q => WO (r.exec (.whil t' b') l H) fun fl q => Q fl q.1 q.2) (jf fl R3 H')) from z) fun f l2 H2 hb z => ?_
   cases f with
   | next => exact sS (show Oh (r.exec (.whil t' b') l2 H2) (dD (jf fl R3 H')) from z) fun q e z => g H1 l2 H2 ht hb (by rw [e, <-z.1, <-z.2.1, <-z.2.2])
   | ret v =>
    replace z : Fl.ret v = fl /\ l2 = R3 /\ H2 = H' := z
    exact k H1 v ht (uE hb z.2.1 z.2.2) z.1.symm
  | false =>
   replace z : Fl.next = fl /\ loc = R3 /\ H1 = H' := z
   exact k' (gw ht z.2.2) z.1.symm z.2.1.symm
theorem F0 {r : hY} {t' : Tg} {b' : List S} {items : List V} {d : Gd} {fl : Fl} (z : eM (iM r).e (bY (iM r).x b') t' d items loc H (jf fl R3 H')) : nM r.eval (M.Tactic.execs r.exec b') t' d items loc H = some (fl, R3, H') :=
 pQ (qr (bL r.eval) (s6 _) items loc H) (show eM (dU r.eval) (qo (M.Tactic.execs r.exec b')) t' d items loc H (jf fl R3 H') from Eb r.exec b' ▸ z)
theorem LJ (SA : ∀ m, m <= n -> kW prog w cls RY P m) {t : Expr} {body : List fZ} {pos : aJ} {t' : E} {b' : List S} {fl : Fl} (h1 : ay k c false t = some t') (h2 : iC k c body = some b') (e : (I P (n + 1)).exec (.whil t' b') loc H = some (fl, R3, H'))
  (rm : aR A n) (R : aA env c loc σ s.heap) (S : aq prog w cls RY σ H s.heap) (O : cN env c PL 0 σ) {Q : lE -> ae -> Prop} {E : aa -> ae -> Prop} (h : ∀ RZ s' f, aX prog w cls RY PL σ s RZ H' s' -> aA env c R3 RZ s'.heap -> pi RZ s'.heap fl f -> Q f s') :
  af (am prog w) A (qS (.While t body [] pos) env) Q E s := by
 refine wpAny_While (codeAny_whileLoop (LC prog w cls RY P n t' b' fl R3 H' PL env c σ s) ?_ (n + 1) (.mk (bq _) σ H loc e (aX.refl S) R))
 rintro m sx ⟨hm, S5, Hx, SJ, ex, N, Rx⟩
 cases m with
 | zero => exact (iA ((jg P 0).2.1 _ _ _) ex).elim
 | succ m =>
  have YO : m <= n := Nat.le_of_succ_le_succ hm
  have al := SA m YO
  have VO := rm.le YO
  have Ox : cN env c PL 0 S5 := O.grow N.grow.pv
  refine Go (jH ex) (fun H1 SY H2 ht hb ex => ?_) (fun H1 v ht hb e => ?_) fun ht e1 e2 => ?_
  ·refine al.b k c false t t' SJ Hx true H1 h1 ht A env S5 sx VO Rx N.sim _ _ fun R6 s1 N1 => ?_
   rw [if_pos rfl]
   refine lW al.s k body b' SJ H1 .next SY H2 R6 s1 h2 hb VO (Rx.grow N1.grow) N1.sim (Ox.grow N1.grow.pv) _ _ fun Sf s2 f N2 R2 F2 => ?_
   rw [show f = .next from F2]
   exact ⟨m, j7 m, .mk (tM hm) Sf H2 SY ex ((N.trans (N1.toP N.sim Ox.sub)).trans N2) R2⟩
  ·refine al.b k c false t t' SJ Hx true H1 h1 ht A env S5 sx VO Rx N.sim _ _ fun R6 s1 N1 => ?_
   rw [if_pos rfl]
   refine lW al.s k body b' SJ H1 (.ret v) R3 H' R6 s1 h2 hb VO (Rx.grow N1.grow) N1.sim (Ox.grow N1.grow.pv) _ _ fun Sf s2 f N2 R2 F2 => ?_
   obtain ⟨u, ef, ru⟩ := F2
   rw [ef]
   exact h Sf s2 _ ((N.trans (N1.toP N.sim Ox.sub)).trans N2) R2 (e ▸ ⟨u, rfl, ru⟩)
  ·refine al.b k c false t t' SJ Hx false H' h1 ht A env S5 sx VO Rx N.sim _ _ fun R6 s1 N1 => ?_
   rw [if_neg aY]
   exact CZ (h R6 s1 .next (N.trans (N1.toP N.sim Ox.sub)) (e2 ▸ Rx.grow N1.grow) (e1 ▸ rfl))
theorem NW {b : Bool} (h : (!b) = false) : b = true := by cases b <;> first | rfl | cases h
theorem Gj {ts : List Expr} {v : Expr} {st' : S} {G : Prop} (h : AS k c ts v = some st') (g1 : ∀ t t' v', ts = [t] -> ¬ (fY t = true /\ fY v = true) -> fH k c t = some t' -> ay k c (p4 t || isListD v) v = some v' -> .assign t' v' = st' -> G)
  (g2 : ∀ us a p vs b q, ts = [.Tuple us a p] -> v = .Tuple vs b q -> A2 k c us vs = some st' -> G) : G :=
 nX h fun t e1 h => by
  have one : (lT t = none \/ lT v = none) -> vH k c t v = some st' -> G := fun ho h => bv h fun t' h1 h => bd h fun v' h2 e => g1 t t' v' e1 (fun q => by
   unfold fY at q
   rcases ho with ho | ho
   ·rw [ho] at q; exact aY q.1
   ·rw [ho] at q; exact aY q.2) h1 h2 e
  exact iy h (fun us hu h => iy h (fun vs hv h => rB hu fun a p et => rB hv fun b q ev => g2 us a p vs b q (e1.trans (by rw [et])) ev h) fun hn h => one (.inr hn) h) fun hn h => one (.inl hn) h
theorem IQ (W : Wd P cls RY) (SA : ∀ m, m <= n -> kW prog w cls RY P m) : SS prog w cls RY (I P (n + 1)).exec (n + 1) := by
 intro k c st st' loc H fl R3 H' Sb R9 A env σ s PL rm R S O Q E h
 have al := SA n (bq _)
 have UB : aR A n := rm.le (io _)
 have XU : interactive env = false := by
  have : env.scope.kind = .function := R.scope ▸ R.fn
  unfold interactive
  rw [this]; rfl
 have one : ∀ R6 s1, Nx prog w cls RY σ s R6 H' s1 -> R3 = loc -> fl = .next -> Q .next s1 := fun R6 s1 N1 el ef => h R6 s1 .next (N1.toP S O.sub) (el ▸ R.grow N1.grow) (ef ▸ rfl)
 cases k with
 | zero => exact aD Sb
 | succ k =>
 cases st with
 | Expr v pos =>
  refine mu Sb fun hc Sb => bd Sb fun v' h1 e => ?_
  rw [<-e] at R9
  refine bz (jH R9) fun y H1 hy z => ?_
  exact wpAny_Expr_any (al.e k c false v v' loc H y H1 h1 hy A env σ s UB R S _ _ fun R6 s1 u N1 r1 => one R6 s1 (z.2.2 ▸ N1) z.2.1.symm z.1.symm) XU (Cb (lq.mpr hc))
 | Assign ts v pos =>
  refine Gj Sb (fun t t' v' Yg Ur h1 h2 e => ?_) fun us a p vs b q Yg ev Sb => mu Sb fun hq Sb => bv Sb fun Tw h1 Sb => bd Sb fun es h2 e => ?_
  ·rw [<-e] at R9
   rw [Yg]
   exact bz (jH R9) fun y H1 hy z => uy z fun Sc H2 Sr z => ON W SA Ur h1 h2 hy Sr UB R S O fun RZ s' N' R' => h RZ s' .next (z.2.2 ▸ N') (z.2.1 ▸ R') (z.1 ▸ rfl)
  ·rw [<-e] at R9
   rw [Yg, ev]
   obtain ⟨hq, q6⟩ := og hq
   obtain ⟨hq, q5⟩ := jr.mp hq
   obtain ⟨hq, q4⟩ := jr.mp hq
   obtain ⟨hq, q3⟩ := jr.mp hq
   obtain ⟨q1, q2⟩ := jr.mp hq
   have q3 : us.length = vs.length := QH fun n => aY ((bne_iff_ne.mpr n).symm.trans q3)
   have q6 : ((us.map rH).flatten).Nodup := of_decide_eq_true (NW q6)
   exact iU (jH R9) fun xs H1 hx z => EM z fun Sc H2 Sr z => O3 W.B al.e q1 q2 q3 q5 q6 h1 h2 hx Sr (cL (vh q4) (by decide)) UB R S O fun RZ s' N' R' => h RZ s' .next (z.2.2 ▸ N') (z.2.1 ▸ R') (z.1 ▸ rfl)
 | Return v pos =>
  cases v with
  | none =>
   rw [<-show _ = st' from aC Sb] at R9
   have z := jH R9
   exact wpAny_Return_none (h σ s _ (z.2.2 ▸ aX.refl S) (z.2.1 ▸ R) (z.1 ▸ ⟨.none, rfl, rfl⟩))
  | some v =>
   refine bd Sb fun v' h1 e => ?_
   rw [<-e] at R9
   exact bz (jH R9) fun y H1 hy z => wpAny_Return_some (al.e k c false v v' loc H y H1 h1 hy A env σ s UB R S _ _ fun R6 s1 u N1 r1 => h R6 s1 _ (z.2.2 ▸ N1.toP S O.sub) (z.2.1 ▸ R.grow N1.grow) (z.1 ▸ ⟨u, rfl, r1⟩))
 | If t a b pos =>
  refine bv Sb fun t' h1 Sb => bv Sb fun a' h2 Sb => bd Sb fun b' h3 e => ?_
  rw [<-e] at R9
  refine bz (jH R9) fun x H1 ht z => mw z fun q eq z => wpAny_If ?_
  rw [eq] at ht
  refine al.b k c false t t' loc H q H1 h1 ht A env σ s UB R S _ _ fun R6 s1 N1 => ?_
  have Sk : ∀ {Sf s2 f}, aX prog w cls RY PL R6 s1 Sf H' s2 -> aA env c R3 Sf s2.heap -> pi Sf s2.heap fl f -> Q f s2 := fun N2 R2 F2 => h _ _ _ ((N1.toP S O.sub).trans N2) R2 F2
  cases q with
  | true => exact lW al.s k a a' loc H1 fl R3 H' R6 s1 h2 (pQ (gP (k9 _) a' loc H1) z) UB (R.grow N1.grow) N1.sim (O.grow N1.grow.pv) _ _ fun Sf s2 f => Sk
  | false => exact lW al.s k b b' loc H1 fl R3 H' R6 s1 h3 (pQ (gP (k9 _) b' loc H1) z) UB (R.grow N1.grow) N1.sim (O.grow N1.grow.pv) _ _ fun Sf s2 f => Sk
 | While t a orelse pos =>
  refine ku Sb fun eo Sb => bv Sb fun t' h1 Sb => bd Sb fun a' h2 e => ?_
  rw [eo]
  exact LJ SA h1 h2 (e ▸ R9) UB R S O h
 | For t it body orelse pos =>
  refine ku Sb fun eo Sb => bv Sb fun t' h1 Sb => bv Sb fun SH h2 Sb => bv Sb fun b' h3 Sb => bT Sb fun hq Sb => eD Sb fun e => ?_
  rw [eo]
  rw [<-e] at R9
  refine yz (jH R9) fun items g H1 hit z => Fc W al.e al.s h1 h2 h3 ?_ hit (F0 z) UB R S O h
  cases t' with
  | names => exact .inl ⟨_, rfl⟩
  | _ => exact .inr hq
 | Raise =>
  rw [<-show _ = st' from aC Sb] at R9
  exact (jH R9).elim
 | _ => exact aD Sb
end
end
section
section
variable {σ : Tk} {t : List ak} {h h' : ao}
theorem Tk.out_add {a : ak} (na : a ∉ (σ.add t).all) : a ∉ σ.all := fun m => na ((aW.mp m).elim (fun q => aV _ q) fun q => be _ (aV _ q))
theorem Tk.at_add {i : Nat} {a a0 : ak} (e0 : σ.tr[i]? = some a0) (e : (σ.add t).tr[i]? = some a) : σ.tr[i]? = some a := by
 rw [Tk.tr_add, gY (bG.mp e0).1] at e; exact e
theorem VR.restrict {x : V} : ∀ {v v' : aa}, VR σ h x v -> VR (σ.add t) h' x v' -> VR σ h' x v' := fun {v v'} =>
 V.rec (motive_1 := fun x => ∀ v v', VR σ h x v -> VR (σ.add t) h' x v' -> VR σ h' x v') (motive_2 := fun x => ∀ v v', an σ h x v -> an (σ.add t) h' x v' -> an σ h' x v') (fun u' u' u' r => r) (fun u' u' u' u' r => r) (fun u' u' u' u' r => r) (fun u' u' u' u' r => r)
  (fun l k v v' q r => by
   obtain ⟨_, Zp, _, _, _, _, q⟩ := q
   obtain ⟨a, vs, e, na, t, ln, r⟩ := r
   exact ⟨a, vs, e, Tk.out_add na, t, ln, k _ _ q r⟩)
  (fun l k v v' q r => by
   obtain ⟨_, Zp, _, _, _, _, q, _⟩ := q
   obtain ⟨a, vs, e, na, t, ln, r, pl⟩ := r
   exact ⟨a, vs, e, Tk.out_add na, t, ln, k _ _ q r, pl⟩)
  (fun i v v' q r => by
   obtain ⟨a0, e0, _⟩ := q
   obtain ⟨a, e, r⟩ := r
   exact ⟨a, Tk.at_add e0 e, r⟩)
  (fun u' u' u' r => r)
  (fun x l k1 k2 v v' q r => by
   obtain ⟨_, _, _, q1, q2⟩ := q
   obtain ⟨a, b, e, r1, r2⟩ := r
   exact ⟨a, b, e, k1 _ _ q1 r1, k2 _ _ q2 r2⟩) x v v'
theorem an.restrict : ∀ {x : List V} {v v' : List aa}, an σ h x v -> an (σ.add t) h' x v' -> an σ h' x v' := by
 intro x
 induction x with
 | nil =>
  intro _ _ _ r
  exact r
 | cons x l iH =>
  intro v v' q r
  obtain ⟨_, _, _, q1, q2⟩ := q
  obtain ⟨a, b, e, r1, r2⟩ := r
  exact ⟨a, b, e, VR.restrict q1 r1, iH q2 r2⟩
theorem VR.noRef {x : V} : ∀ {v : aa}, V.noRef x = true -> VR (σ.add t) h x v -> VR σ h x v := fun {v} =>
 V.rec (motive_1 := fun x => ∀ v, V.noRef x = true -> VR (σ.add t) h x v -> VR σ h x v) (motive_2 := fun x => ∀ v, V.noRefs x = true -> an (σ.add t) h x v -> an σ h x v) (fun u' u' r => r) (fun u' u' u' r => r) (fun u' u' u' r => r) (fun u' u' u' r => r)
  (fun l k v q r => by
   obtain ⟨a, vs, e, na, t, ln, r⟩ := r
   exact ⟨a, vs, e, Tk.out_add na, t, ln, k _ q r⟩)
  (fun l k v q r => by
   obtain ⟨a, vs, e, na, t, ln, r, pl⟩ := r
   exact ⟨a, vs, e, Tk.out_add na, t, ln, k _ q r, pl⟩)
  (fun i v q r => aY q)
  (fun u' u' r => r)
  (fun x l k1 k2 v q r => by
   obtain ⟨a, b, e, r1, r2⟩ := r
   exact ⟨a, b, e, k1 _ (bk.mp q).1 r1, k2 _ (bk.mp q).2 r2⟩) x v
theorem an.noRef : ∀ {x : List V} {v : List aa}, V.noRefs x = true -> an (σ.add t) h x v -> an σ h x v := by
 intro x
 induction x with
 | nil =>
  intro _ _ r
  exact r
 | cons x l iH =>
  intro v q r
  obtain ⟨a, b, e, r1, r2⟩ := r
  exact ⟨a, b, e, VR.noRef (bk.mp q).1 r1, iH (bk.mp q).2 r2⟩
theorem cG.restrict : ∀ {l : List (Int × V)} {kvs V1 : List (Int × aa)}, cG σ h l kvs -> cG (σ.add t) h' l V1 -> cG σ h' l V1 := by
 intro l
 induction l with
 | nil =>
  intro _ _ _ r
  exact r
 | cons Se l iH =>
  obtain ⟨k, x⟩ := Se
  intro _ _ q r
  obtain ⟨_, _, _, q1, q2⟩ := q
  obtain ⟨v, b, e, r1, r2⟩ := r
  exact ⟨v, b, e, q1.restrict r1, iH q2 r2⟩
variable {prog : aG} {w : aE} {cls : aZ} {RY : ao}
theorem dt.restrict {a : ak} {o : ar} (q : dt prog w cls σ h a o) (r : dt prog w cls (σ.add t) h' a o) : dt prog w cls σ h' a o := by
 cases o with
 | list l => obtain ⟨_, _, _, q⟩ := q; obtain ⟨vs, e, ln, r⟩ := r; exact ⟨vs, e, ln, q.restrict r⟩
 | dict l => obtain ⟨_, _, _, _, q⟩ := q; obtain ⟨kvs, d, sm, ln, r⟩ := r; exact ⟨kvs, d, sm, ln, q.restrict r⟩
 | inst c j =>
  obtain ⟨_, d0, _, e0, _⟩ := q
  obtain ⟨z, d, o, e1, r⟩ := r
  exact ⟨z, d, o, Tk.at_add e0 e1, r⟩
 | attrs m =>
  obtain ⟨mA0, _, _, q⟩ := q
  obtain ⟨mA, d, x, r⟩ := r
  refine ⟨mA, d, x, r.len, fun k n x e1 e2 => ?_, r.only⟩
  obtain ⟨_, _, q'⟩ := q.some k n x e1 e2
  obtain ⟨v, a, b⟩ := r.some k n x e1 e2
  exact ⟨v, a, q'.restrict b⟩
theorem Nx.drop {RZ : Tk} {s s' : ae} {H H' : AH} {x : V} {v : aa} (S : aq prog w cls RY σ H s.heap) (N : Nx prog w cls RY σ s RZ H' s') (e : H'.take H.length = H) (hx : x.noRef = true) (r : VR RZ s'.heap x v) : Nx prog w cls RY σ s σ H s' /\ VR σ s'.heap x v := by
 obtain ⟨t, rfl, ht⟩ := N.grow.pre
 refine ⟨⟨⟨⟨[], by simp [Tk.add_nil]⟩, N.grow.keep⟩, ⟨N.sim.keep, S.len, S.fresh, S.nodup, N.sim.pvs, fun i a o e1 e2 => ?_⟩, N.gens, N.os⟩, r.noRef hx⟩
 refine (S.objs i a o e1 e2).restrict (N.sim.objs i a o ?_ ?_)
 ·rw [Tk.tr_add, gY (bG.mp e1).1]; exact e1
 ·have hi := (bG.mp e2).1
  rw [<-e, tP] at e2
  rw [if_pos hi] at e2
  exact e2
end
theorem Io : ∀ {names : List (ac × fu)} {n : Nat} {acc : List (ac × ak)} {x : ac} {a : ak}, (∀ k, (x, k) ∉ names) -> acc.lookup x = some a -> (eI n names acc).lookup x = some a := by
 intro names
 induction names with
 | nil =>
  intro _ _ _ _ _ e
  exact e
 | cons Se r iH =>
  obtain ⟨y, k⟩ := Se
  intro n acc x a h e
  have hx : x ≠ y := fun q => h k (by rw [q]; exact aL)
  unfold eI
  split
  ·refine iH (fun k m => h k (aQ _ m)) ?_
   rw [eT]
   have : (x == y) = false := by simpa using hx
   rw [this]; exact e
  ·exact iH (fun k m => h k (aQ _ m)) e
set_option tactic.hygienic true in
theorem FL : ∀ {names : List (ac × fu)} {n : Nat} {acc : List (ac × ak)} {a : ak}, (names.map (·.1)).Nodup -> a ∈ gH n names -> ∃ x, (eI n names acc).lookup x = some a := by
 intro names
 induction names with
 | nil =>
  intro _ _ _ _ h
  simp [r8, jF] at h
 | cons Se r iH =>
  obtain ⟨y, k⟩ := Se
  intro n acc a nd h
  simp only [cA, dh] at nd
  rw [jF] at h
  unfold eI
  split at h
  ·rename_i q
   rw [if_pos q]
   rcases aP.mp h with e | e
   ·exact ⟨y, Io (fun k m => nd.1 (bg.mpr ⟨_, m, rfl⟩)) (by rw [e]; simp [eT])⟩
   ·exact iH nd.2 e
  ·rename_i q
   rw [if_neg q]
   exact iH nd.2 h
noncomputable def qE (ps : lk) (sc : cD) : Bool :=
 let ns := ps.args.map (·.arg)
 sc.kind == .function && !sc.isCoroutine && !sc.isGenerator && decide (sc.names.map (·.1)).Nodup && decide ns.Nodup && ns.all (fun x => sc.names.lookup x == some .local || sc.names.lookup x == some .cell) && sc.names.all (fun x => x.2 != .free)
theorem Lv {kindOf : ac -> Option fu} {x : ac} : ∀ {bs : List (ac × aa)} {m : ac -> Option aa}, (∀ v, (x, v) ∉ bs) -> qT kindOf bs m x = m x := by
 intro bs
 induction bs with
 | nil =>
  intro _ _
  exact rfl
 | cons Se r iH =>
  obtain ⟨y, v⟩ := Se
  intro m h
  have hx : x ≠ y := fun q => h v (by rw [q]; exact aL)
  unfold qT
  rw [iH fun v' m' => h v' (aQ _ m')]
  split
  ·simp [hx]
  ·rfl
theorem J9 {kindOf : ac -> Option fu} {x : ac} : ∀ {bs : List (ac × aa)} {m : ac -> Option aa}, (∀ v, (x, v) ∉ bs) -> qU kindOf bs m x = m x := by
 intro bs
 induction bs with
 | nil =>
  intro _ _
  exact rfl
 | cons Se r iH =>
  obtain ⟨y, v⟩ := Se
  intro m h
  have hx : x ≠ y := fun q => h v (by rw [q]; exact aL)
  unfold qU
  rw [iH fun v' m' => h v' (aQ _ m')]
  split
  ·rfl
  ·simp [hx]
theorem zc {ns : List ac} {vs : List aa} {x : ac} {v : aa} (h : (x, v) ∈ ns.zip vs) : x ∈ ns := (C2 h).1
theorem ya {kindOf : ac -> Option fu} : ∀ {ns : List ac} {vs : List aa} {m : ac -> Option aa} {i : Nat} {x : ac} {v : aa}, ns.Nodup -> ns[i]? = some x -> vs[i]? = some v →
  (kindOf x = some .local -> qT kindOf (ns.zip vs) m x = some v) /\ (kindOf x ≠ some .local -> qU kindOf (ns.zip vs) m x = some v) := by
 intro ns
 induction ns with
 | nil =>
  intro _ _ _ _ _ _ e _
  simp at e
 | cons Se q2' iH =>
  intro T5
  cases T5 with
  | nil =>
   intro _ _ _ _ _ _ e
   simp at e
  | cons u vs =>
   intro m i x v nd e1 e2
   rw [dh] at nd
   cases i with
   | zero =>
    simp at e1 e2
    subst e1 e2
    have sk : ∀ v, (Se, v) ∉ q2'.zip vs := fun v h => nd.1 (zc h)
    refine ⟨fun hk => ?_, fun hk => ?_⟩
    ·simp only [nc, qT]
     rw [Lv sk, if_pos hk]; simp
    ·simp only [nc, qU]
     rw [J9 sk, if_neg hk]; simp
   | succ i =>
    simp at e1 e2
    refine ⟨fun hk => ?_, fun hk => ?_⟩
    ·simp only [nc, qT]
     exact (iH nd.2 e1 e2).1 hk
    ·simp only [nc, qU]
     exact (iH nd.2 e1 e2).2 hk
section
variable {prog : aG} {w : aE} {cls : aZ} {RY : ao} {A : bm} {σ : Tk} {s : ae} {H H' : AH} {P : cn} {n : Nat}
theorem Hm {ps : lk} {sc : cD} {vs : List V} {R8 : List aa} {env : bH} {a : ak} {qual : ac} {code : aa} {s' : ae} (ok : qE ps sc = true) (Vz : vs.length = ps.args.length) (S : aq prog w cls RY σ H s.heap) (r : an σ s.heap vs R8)
  (he : env = newEnv sc s.heap.objs.size ij (eI (s.heap.objs.size + 1) sc.names []) qual (some a) code none tE) (x : InCallC s env.locals (qT env.kindOf ((ps.args.map (·.arg)).zip R8) fun u' => none) env.cells (qU env.kindOf ((ps.args.map (·.arg)).zip R8) fun u' => none) s') :
  aA env (jx ps sc) (vs.map some ++ fJ ((jx ps sc).n - ps.args.length) none) (σ.own (bt s.heap sc)) s'.heap /\ cN env (jx ps sc) (bt s.heap sc) 0 (σ.own (bt s.heap sc)) /\ aq prog w cls RY (σ.own (bt s.heap sc)) H s'.heap := by
 simp only [qE, eU, C3, beq_iff_eq, decide_eq_true_eq, bJ, xv, bne_iff_ne] at ok
 obtain ⟨⟨⟨⟨⟨⟨k1, k2⟩, k3⟩, k4⟩, k5⟩, k6⟩, k7⟩ := ok
 have hz : (s.heap.push { cls := .type "frame", data := .dict #[] }).objs.size = s.heap.objs.size + 1 := gc ..
 have WR : (s.heap.push { cls := .type "dict", data := .dict #[] }).objs.size = s.heap.objs.size + 1 := gc ..
 obtain ⟨c1, c2, c3, c4⟩ := wb sc.names (s.heap.push { cls := .type "frame", data := .dict #[] }) [] (fun x y a e => by simp at e) (fun x a e => by simp at e)
 rw [hz] at c1 c2 c3 c4
 have SP : env.cells = eI (s.heap.objs.size + 1) sc.names [] := by rw [he]; rfl
 have Vj : env.locals = s.heap.objs.size := by rw [he]; rfl
 have YI : env.scope = sc := by rw [he]; rfl
 have Vl : ∀ y, env.kindOf y = sc.names.lookup y := fun y => by unfold qN; rw [YI]
 have keep := x.toInCall.keep
 have U4 : ∀ y d, env.cells.lookup y = some d -> d ∈ bt s.heap sc := fun y d e => by
  rw [SP] at e
  rcases vg e with q | q
  ·simp at q
  ·unfold bt; rw [WR]; exact aQ _ q
 have there : ∀ d ∈ bt s.heap sc, ∃ o, s'.heap.get? d = some o := fun d hd => by
  unfold bt at hd
  rw [WR] at hd
  rcases aP.mp hd with q | q
  ·obtain ⟨o, _, _, e, _⟩ := x.toInCall.ns
   rw [q, <-Vj]; exact ⟨o, e⟩
  ·obtain ⟨y, e⟩ := FL (acc := []) k4 q
   obtain ⟨o, e', _⟩ := x.cell y d (by rw [SP]; exact e)
   exact ⟨o, e'⟩
 have S' : aq prog w cls RY (σ.own (bt s.heap sc)) H s'.heap := S.enter jz BK there keep
 have r' : an (σ.own (bt s.heap sc)) s'.heap vs R8 := r.enter jz keep
 have T8 : ∀ d ∈ bt s.heap sc, d ∉ (σ.own (bt s.heap sc)).tr := fun d hd => S'.apart (aV _ hd)
 have ZG : (jx ps sc).n = ps.args.length + ((dy sc).filter fun x => !(ps.args.map (·.arg)).contains x).length := by
  show ((ps.args.map (·.arg)) ++ _).length = _
  rw [dg, aM]
 have Uy : ∀ {y i}, (jx ps sc).tab.lookup y = some i -> ((ps.args.map (·.arg)) ++ (dy sc).filter fun x => !(ps.args.map (·.arg)).contains x)[i]? = some y := fun {y i} e => by
  obtain ⟨j, e1, e2⟩ := zM e
  have : i = j := by trivial
  rw [this]; exact e1
 have valAt : ∀ {y i v}, (jx ps sc).tab.lookup y = some i -> (vs.map some ++ fJ ((jx ps sc).n - ps.args.length) none)[i]? = some (some v) -> (ps.args.map (·.arg))[i]? = some y /\ vs[i]? = some v := fun {y i v} e1 e2 => by
  by_cases q : i < vs.length
  ·rw [gY (by simpa using q), cM] at e2
   have e3 := Uy e1
   rw [gY (by simp; trivial)] at e3
   refine ⟨e3, ?_⟩
   rw [bR q] at e2 ⊢
   simp at e2
   rw [e2]
  ·rw [mP (by simpa using tv q), xr] at e2
   split at e2 <;> cases e2
 refine ⟨⟨YI, ?_, by rw [he]; rfl, by rw [he]; rfl, ?_, ?_, ?_, ?_, ?_, ?_, ⟨_, x.toInCall.ns, ?_⟩, ?_⟩, ⟨?_, fun y i d u' u' e => U4 y d e, fun d hd => aV _ hd⟩, S'⟩
 ·exact k1
 ·rw [dg, aM, QD, Vz, ZG]; trivial
 ·intro y z i e1 e2
  have h1 := Uy e1
  rw [Uy e2] at h1
  cases h1; rfl
 ·intro y z d e1 e2
  rw [SP] at e1 e2
  exact c1 y z d e1 e2
 ·intro y i e
  have := (bG.mp (Uy e)).1
  exact this
 ·have : env.locals ∈ bt s.heap sc := by rw [Vj]; exact aL
  exact ⟨aV _ this, T8 _ this⟩
 ·intro y d e
  have hd := U4 y d e
  refine ⟨aV _ hd, T8 d hd, fun q => ?_, _, x.cell y d e⟩
  have := x.above y d (mem_of_lookup e)
  rw [q] at this
  exact eR _ this
 ·intro y i v e1 e2 e3
  obtain ⟨e4, e5⟩ := valAt e1 e3
  obtain ⟨u, e6, ru⟩ := r'.get e5
  exact ⟨u, (ya k5 e4 e6).1 (by rw [Vl]; exact e2), ru⟩
 ·intro y i e1 e2
  have hk : sc.names.lookup y = some .cell := by
   rcases e2 with q | q
   ·exact q
   ·exact absurd rfl (k7 _ (mem_of_lookup q))
  obtain ⟨d, e3⟩ := c3 y (mem_of_lookup hk)
  refine ⟨d, _, by rw [SP]; exact e3, x.cell y d (by rw [SP]; exact e3), fun v hv => ?_⟩
  obtain ⟨e4, e5⟩ := valAt e1 hv
  obtain ⟨u, e6, ru⟩ := r'.get e5
  exact ⟨u, (ya k5 e4 e6).2 (by rw [Vl, hk]; intro q; cases q), ru⟩
 ·rw [Vj]; exact aL
noncomputable def uo : Bool := iJ.all fun x => match x with
 | some (ps, _, sc) => qE ps sc
 | none => true
theorem JT (W : Wd P cls RY) (raw : uo = true) (al : kW prog w cls RY P n) : SC prog w cls RY (I P (n + 1)).call (n + 1) := by
 intro f vs H v H' hc A σ s a R8 hf rm S r Q E h
 obtain ⟨o, fd, ps, body, sc, f1, f3, f4, f5, f6, f7, f8, f9, f10, f11⟩ := hf
 have ok : qE ps sc = true := by
  have := bJ.mp raw _ (aT f4)
  exact this
 have T6 := ok
 simp only [qE, eU, C3, beq_iff_eq, decide_eq_true_eq, bJ, xv, bne_iff_ne] at T6
 obtain ⟨⟨⟨⟨⟨⟨k1, k2⟩, k3⟩, k4⟩, k5⟩, k6⟩, k7⟩ := T6
 refine gy (GE hc) fun fr hfr hc => ?_
 obtain ⟨YM, hc⟩ := hc
 have Sb : trF ps body sc = some fr := by
  have e1 : sZ[f]? = some (some fr) := by rw [W.fns, cM, hfr]; rfl
  unfold sZ at e1
  rw [cM, f4] at e1
  exact aC e1
 refine bd Sb fun WA hb efr => ?_
 rw [<-efr] at YM hc
 refine BM hc fun fl R3 H1 hx hc => ?_
 have Vz : vs.length = ps.args.length := YM
 have ZT : R8.length = ps.args.length := by rw [<-r.length]; exact Vz
 refine wpAny_call (codeAny_call_function (by have := rm.depth; trivial) (S.keep _ _ f1) f3 (by rw [f6]; exact k2) (by rw [f6]; exact k3) f5 (f10.keeps S.keep) ?_)
 refine f11 R8 s ZT S.keep _ _ _ _ ?_
 rw [f9, f6, f7, f8]
 have ZQ : (s.heap.push { cls := .type "frame", data := .dict #[] }).objs.size = s.heap.objs.size + 1 := gc ..
 obtain ⟨_, _, c3, _⟩ := wb sc.names (s.heap.push { cls := .type "frame", data := .dict #[] }) [] (fun x y a e => by simp at e) (fun x a e => by simp at e)
 rw [ZQ] at c3
 refine wpAny_newFunctionEnv_cells k1 (fun p hp => ?_) fun env he s' x => ?_
 ·have hm := zc (x := p.1) (v := p.2) hp
  rcases k6 p.1 hm with q | q
  ·exact .inl q
  ·obtain ⟨d, e⟩ := c3 p.1 (mem_of_lookup q)
   exact .inr ⟨q, by rw [e]; rfl⟩
 ·obtain ⟨R1, O1, S1⟩ := Hm ok Vz S r he x
  refine ⟨W.lim.keeps fun b o e => x.toInCall.keep b o (S.keep b o e), codeAny_func ?_⟩
  have Zu : aR (A.deeper env) n := ⟨by have := rm.depth; show A.depth + 1 + n < _; trivial, by have := rm.units; show A.units + 3 + 20 * n + 100 < _; trivial, rm.handled⟩
  refine lW al.s 40 body WA _ H fl R3 H1 _ s' hb hx Zu R1 S1 O1 _ _ fun Sf s2 g N2 R2 F2 => ?_
  obtain ⟨t, ht, hn⟩ := N2.grow.pre
  have V7 : Sf = (σ.add t).own (bt s.heap sc) := by rw [ht]; rfl
  clear ht
  subst V7
  obtain ⟨hh, tk, TM⟩ := x.toInCall.same
  have YC : ∀ b o, b ∉ bt s.heap sc -> s2.heap.get? b = some o -> s2.heap.get? b = some o := fun u' u' u' e => e
  have nd := N2.sim.nodup
  have n2 := (bX.mp (bX.mp nd).1).2
  have SL : aq prog w cls RY (σ.add t) H1 s2.heap := N2.sim.leave (τ := σ.add t) YC rfl (fun b hb => be _ hb) n2.1 fun b hb => N2.sim.pvs b (be _ hb)
  have NL : Nx prog w cls RY σ s (σ.add t) H1 s2 := by
   refine ⟨⟨⟨t, rfl, fun b hb => ?_⟩, fun b ob nb e => ?_⟩, SL, by rw [N2.gens, TM], by rw [N2.os, TM]⟩
   ·cases e : s.heap.get? b with
    | none => rfl
    | some ob => have := hn b hb; rw [x.toInCall.keep _ _ e] at this; cases this
   ·exact N2.grow.keep b ob nb (fun m => by rw [jz b m] at e; cases e) (x.toInCall.keep _ _ e)
  have res : ∃ u, VR (σ.add t) s2.heap fl.val u /\ (g = .ret u \/ (g = .next /\ u = .none)) := by
   cases fl with
   | next => exact ⟨.none, rfl, .inr ⟨F2, rfl⟩⟩
   | ret y =>
    obtain ⟨u, e, ru⟩ := F2
    exact ⟨u, VR.leave (σ := σ.add t) (ps := bt s.heap sc) (τ := σ.add t) (fun b nb => Tk.all_own nb) (fun u' u' e => e) YC ru, .inl e⟩
  obtain ⟨u, ru, eu⟩ := res
  have done : Q u s2 := by
   replace hc : if (fl.val.noRef && decide (H1.take H.length = H)) = true then iu v H' fl.val H else iu v H' fl.val H1 := hc
   by_cases q : (fl.val.noRef && decide (H1.take H.length = H)) = true
   ·rw [if_pos q] at hc
    obtain ⟨q1, q2⟩ := bk.mp q
    obtain ⟨N3, r3⟩ := Nx.drop S NL (of_decide_eq_true q2) q1 ru
    exact h σ s2 u (hc.2 ▸ N3) (hc.1 ▸ r3)
   ·rw [if_neg q] at hc
    exact h (σ.add t) s2 u (hc.2 ▸ NL) (hc.1 ▸ ru)
  rcases eu with e | ⟨e1, e2⟩
  ·rw [e]; exact done
  ·rw [e1]; rw [e2] at done; exact done
end
end
section
structure nW (prog : aG) (w : aE) (cls : aZ) (RY : ao) : Prop where
 sorted : ∀ (A : bm) (σ : Tk) (s : ae) (H : AH) (vs : List V) (R8 : List aa) (z : V) (H' : AH), aR A 0 -> aq prog w cls RY σ H s.heap -> an σ s.heap vs R8 -> dq H .sorted vs = some (z, H') -> ct prog w cls RY A (call (.builtin "sorted") R8) σ s z H'
 set : ∀ (A : bm) (σ : Tk) (s : ae) (H : AH) (v : V) (u : aa) (z : V) (H' : AH) (Q : aa -> ae -> Prop) (E : aa -> ae -> Prop), aR A 0 -> aq prog w cls RY σ H s.heap -> VR σ s.heap v u -> dq H .sortedSet [v] = some (z, H') -> (∀ RZ s' v, Nx prog w cls RY σ s RZ H' s' -> VR RZ s'.heap z v -> Q v s') →
  af (am prog w) A (call (.type "set") [u]) (fun r s1 => af (am prog w) A (call (.builtin "sorted") [r]) Q E s1) E s
section
variable {prog : aG} {w : aE} {cls : aZ} {RY : ao} {A : bm} {σ : Tk} {s : ae} {H H' : AH} {P : cn}
variable {n : Nat} {k : Nat} {c : TC} {loc R3 : Loc} {env : bH} {PL : List ak} {ev : E -> Loc -> AH -> Option (V × AH)}
theorem Md (W : Wd P cls RY) (X : nW prog w cls RY) (ih : SE prog w cls RY ev n) {x : ac} {t : Bool} {es : List Expr} {Si : List E} {vs : List V} {v : V} {H1 : AH} {p pos : aJ} (hg : dY c x = true) (hd : (x == ("__debug__" : ac)) = false) (Sr : es.any bO = false)
  (hi : dQ.idxOf? x = some 5) (Sb : aS (ay k c t) es = some Si) (R9 : cW ev Si loc H = some (vs, H1)) (hc : dq H1 .sorted vs = some (v, H'))
  (rm : aR A n) (R : aA env c loc σ s.heap) (S : aq prog w cls RY σ H s.heap) : ct prog w cls RY A (eval (.Call (.Name x p) es [] pos) env) σ s v H' := fun Q E h => by
 obtain ⟨mg, mb, N⟩ := W.names
 refine mB hg hd N (.inr (rU hi (f := .builtin "sorted") (sX (i := 5) rfl (aT (i := 3) rfl)) N)) R S (mz Sr (.inl ⟨_, rfl⟩) ?_)
 refine kQ ih es Si loc H vs H1 Sr Sb R9 A env σ s pos rm R S _ _ fun R6 s1 q N1 r1 => ⟨fun a o e => (by cases e), ?_⟩
 rw [kg]
 exact X.sorted A R6 s1 H1 vs q v H' (rm.le (dZ _)) N1.sim r1 hc Q E fun Sf s2 u N2 r2 => h Sf s2 u (N1.trans N2) r2
theorem MK (W : Wd P cls RY) (X : nW prog w cls RY) (ih : SE prog w cls RY ev n) {x y : ac} {t : Bool} {a : Expr} {a' : E} {va z : V} {H1 : AH} {p pos py pa : aJ} (hg : dY c x = true) (hd : (x == ("__debug__" : ac)) = false) (ut : dY c y = true) (hy : y = "set") (Sr : bO a = false)
  (hi : dQ.idxOf? x = some 5) (Sb : ay k c t a = some a') (R9 : ev a' loc H = some (va, H1)) (hc : dq H1 .sortedSet [va] = some (z, H'))
  (rm : aR A n) (R : aA env c loc σ s.heap) (S : aq prog w cls RY σ H s.heap) : ct prog w cls RY A (eval (.Call (.Name x p) [.Call (.Name y py) [a] [] pa] [] pos) env) σ s z H' := fun Q E h => by
 subst hy
 obtain ⟨mg, mb, N⟩ := W.names
 have XG : mg "set" = none /\ mb "set" = some (.type "set") := ⟨N.miss ("set", .type "set") (aT (i := 6) rfl), N.bi ("set", .type "set") (aT (i := 6) rfl)⟩
 refine mB hg hd N (.inr (rU hi (f := .builtin "sorted") (sX (i := 5) rfl (aT (i := 3) rfl)) N)) R S (mz rfl (.inl ⟨_, rfl⟩) ?_)
 show af _ A (do
  let v <-eval (.Call (.Name "set" py) [a] [] pa) env
  let here <-(pure [v] : d8 (List aa))
  return here ++ (<-iR here (lu (gD pos (fK [] env))))) _ E s
 refine ah (mB ut (by decide +kernel) N (.inr XG) R S (mz (by simp [Sr]) (.inr (.inl ⟨_, rfl⟩)) ?_))
 refine kQ (k := k) (t := t) ih [a] [a'] loc H [va] H1 (by simp [Sr]) (sO Sb) (v6 R9) A env σ s pa rm R S _ _ fun R6 s1 q N1 r1 => ⟨fun a o e => (by cases e), ?_⟩
 obtain ⟨u, _, e1, ru, e2⟩ := r1
 rw [e1, show _ = [] from e2, kg]
 refine cZ (X.set A R6 s1 H1 va u z H' Q E (rm.le (dZ _)) N1.sim ru hc fun Sf s2 u N2 r2 => h Sf s2 u (N1.trans N2) r2) (fun r s2 h2 => ?_) fun u' u' e => e
 refine ah (av (ah (dS ?_)))
 show af _ A (lu []) _ E s2
 exact av (av ⟨fun a o e => (by cases e), h2⟩)
end
end
section
section
variable {prog : aG} {w : aE} {cls : aZ} {RY : ao} {A : bm} {σ : Tk} {s : ae} {H H' : AH} {P : cn}
variable {n : Nat} {k : Nat} {c : TC} {loc R3 : Loc} {env : bH} {PL : List ak} {ev : E -> Loc -> AH -> Option (V × AH)}
noncomputable def pairsOf (env : bH) (pos : aJ) : List (Option Expr) -> List Expr -> List (d8 aa × d8 aa)
 | [], _ => []
 | k :: ks, vs => oEl k (fun k => (match vs with
  | v :: vs => (eval k env, do let x <-eval v env; tJ pos; pure x) :: pairsOf env pos ks vs
  | [] => [])) []
theorem wV {o : Option Expr} {x : ac} (h : kR o = some x) : ∃ a p, o = some (.Constant (.str x) a p) := by
 cases o with
 | none => exact aD h
 | some e =>
  have key : ∀ e0, e = e0 -> kR (some e0) = some x -> ∃ a p, some e = some (.Constant (.str x) a p) := fun e0 he h => by
   cases e0 with
   | Constant c a p =>
    cases c with
    | str y => exact ⟨a, p, by rw [he, show y = x from aC h]⟩
    | _ => exact aD h
   | _ => exact aD h
  exact key e rfl h
theorem EV {pos : aJ} : ∀ {ks : List (Option Expr)} {vs : List Expr} {SN : List ac}, aS kR ks = some SN -> ks.length = vs.length →
  (evalEachOpt ks env).zip ((evalEach vs env).map fun v => do let x <-v; tJ pos; pure x) = (pairsOf env pos ks vs).map fun p => (some p.1, p.2) := by
 intro ks
 induction ks with
 | nil =>
  intro _ _ _ _
  exact rfl
 | cons k ks iH =>
  intro Se
  cases Se with
  | nil =>
   intro _ _ h
   exact (nomatch h)
  | cons v vs =>
   intro SN h hz
   obtain ⟨x, r, h1, h2, _⟩ := fb h
   obtain ⟨a, p, e⟩ := wV h1
   have ih := iH h2 (gC hz) (vs := vs)
   rw [e]
   show (some (eval (.Constant (.str x) a p) env), _) :: ((evalEachOpt ks env).zip ((evalEach vs env).map _)) = _
   rw [ih]; rfl
theorem Ly {pos : aJ} : ∀ {ks : List (Option Expr)} {vs : List Expr} {SN : List ac}, aS kR ks = some SN -> ks.length = vs.length -> (pairsOf env pos ks vs).length = ks.length := by
 intro ks
 induction ks with
 | nil =>
  intro _ _ _ _
  exact rfl
 | cons k ks iH =>
  intro Se
  cases Se with
  | nil =>
   intro _ _ h
   exact (nomatch h)
  | cons v vs =>
   intro SN h hz
   obtain ⟨x, r, h1, h2, _⟩ := fb h
   obtain ⟨a, p, e⟩ := wV h1
   rw [e]
   exact congrArg (· + 1) (iH h2 (gC hz) (vs := vs))
theorem Nj (ih : SE prog w cls RY ev n) {pos : aJ} {t : Bool} {E : aa -> ae -> Prop} : ∀ (ks : List (Option Expr)) (vs : List Expr) (SN : List ac) (es : List M.Tactic.E) (xs : List V) (H H' : AH) (σ : Tk) (s : ae) (Q : List (aa × aa) -> ae -> Prop), aS kR ks = some SN -> aS (ay k c t) vs = some es -> ks.length = vs.length →
  cW ev es loc H = some (xs, H') -> aR A n -> aA env c loc σ s.heap -> aq prog w cls RY σ H s.heap -> (∀ RZ s' ps R8, Nx prog w cls RY σ s RZ H' s' -> Carries (strKind prog w) ps (SN.zip R8) -> an RZ s'.heap xs R8 -> R8.length = SN.length -> Q ps s') -> af (am prog w) A (evalPairs (pairsOf env pos ks vs)) Q E s := by
 intro ks
 induction ks with
 | nil =>
  intro vs SN es xs H H' σ s Q h1 h2 hz e rm R S h
  rw [ik hz.symm] at h2
  rw [iN h2] at e
  rw [iN h1] at h
  exact qH e fun e1 e2 => evalPairs_nil (h σ s [] [] (e2 ▸ Nx.refl S) trivial (e1 ▸ an.nil) rfl)
 | cons ke ks iH =>
  intro Se
  cases Se with
  | nil =>
   intro _ _ _ _ _ _ _ _ _ _ h _ _ _ _ _
   exact (nomatch h)
  | cons v vs =>
   intro SN es xs H H' σ s Q h1 h2 hz e rm R S h
   obtain ⟨x, r, g1, g2, e1⟩ := fb h1
   obtain ⟨a, p, e2⟩ := wV g1
   obtain ⟨v', Si, g3, g4, e3⟩ := fb h2
   rw [e3] at e
   rw [e1] at h
   rw [e2]
   refine qB e fun y H1 ys hy UX e4 => evalPairs_cons (Calls.Constant_str ?_)
   have K := Nx.tok S (s.toks + 1)
   refine ah (ih k c t v v' loc H y H1 g3 hy A env σ { s with toks := s.toks + 1 } rm R S _ _ fun R6 s1 u N1 r1 => ah (m7 (av ?_)))
   refine iH vs r Si ys H1 _ R6 s1 _ g2 g4 (gC hz) UX rm (R.grow (K.trans N1).grow) N1.sim fun Sf s2 ps R8 N2 cr r2 hl => ?_
   exact h Sf s2 _ (u :: R8) ((K.trans N1).trans N2) ⟨strKind_is _ _ _ _, rfl, cr⟩ (e4 ▸ an.cons (r1.grow N2.grow) r2) (congrArg (· + 1) hl)
theorem NI {K : Type} [DecidableEq K] : ∀ {kvs acc : List (K × aa)}, ((acc ++ kvs).map (·.1)).Nodup -> tQ acc kvs = acc ++ kvs := by
 intro kvs
 induction kvs with
 | nil =>
  intro acc _
  simp [tQ]
 | cons Se r iH =>
  obtain ⟨x, v⟩ := Se
  intro acc nd
  have hx : ¬ (acc.any fun kv => decide (kv.1 = x)) = true := by
   rw [List.any_eq_true]
   rintro ⟨p, hp, e⟩
   rw [eJ, bX] at nd
   exact nd.2.2 p.1 (bg.mpr ⟨p, hp, rfl⟩) x (by simp) (of_decide_eq_true e)
  have e1 : lz acc x v = acc ++ [(x, v)] := by rw [lz, if_neg hx]
  have e2 : tQ acc ((x, v) :: r) = tQ (lz acc x v) r := rfl
  rw [e2, e1, iH (by simpa using nd)]
  simp
theorem IX {ks : List ac} {x : ac} {y : V} {h : ao} : ∀ {xs : List V} {R8 : List aa}, an σ h xs R8 -> R8.length = ks.length -> (ks.zip xs).lookup x = some y -> ∃ u, mW (ks.zip R8) x = some u /\ VR σ h y u := by
 induction ks with
 | nil => intro xs R8 _ _ e; simp at e
 | cons a ks ih =>
  intro xs R8 r hz e
  cases xs with
  | nil => simp at e
  | cons z xs =>
   simp only [an] at r
   obtain ⟨u, R8, rfl, r1, r2⟩ := r
   simp only [nc, eT] at e
   by_cases q : x = a
   ·subst q
    simp at e
    subst e
    exact ⟨u, by simp [mW], r1⟩
   ·have hq : (x == a) = false := by simpa using q
    rw [hq] at e
    obtain ⟨u', e1, e2⟩ := ih r2 (by simpa using hz) e
    refine ⟨u', ?_, e2⟩
    unfold mW at e1 ⊢
    rw [nc, P4 (by simpa using fun e => q e.symm)]
    exact e1
theorem MU (ih : SE prog w cls RY ev n) {ks : List (Option Expr)} {vs : List Expr} {sl : Expr} {dp pos : aJ} {SN : List ac} {es : List M.Tactic.E} {WJ : M.Tactic.E} {xs : List V} {x : ac} {y : V} {H1 H2 : AH} {t t' : Bool} (h1 : aS kR ks = some SN) (h2 : aS (ay k c t) vs = some es) (h3 : ay k c t' sl = some WJ) (WW : ∀ l u st q, sl ≠ .Slice l u st q)
  (hz : SN.length = es.length) (VF : SN.length <= 15) (h0 : SN ≠ []) (nd : SN.Nodup) (e1 : cW ev es loc H = some (xs, H1)) (e2 : ev WJ loc H1 = some (.str x, H2)) (e3 : (SN.zip xs).lookup x = some y)
  (rm : aR A n) (R : aA env c loc σ s.heap) (S : aq prog w cls RY σ H s.heap) : ct prog w cls RY A (eval (.Subscript (.Dict ks vs dp) sl pos) env) σ s y H2 := fun Q E h => by
 have SZ : ks.length = vs.length := by rw [<-my h1, <-my h2]; exact hz
 have SF := Ly (env := env) (pos := dp) h1 SZ
 have W3 : ∀ a ∈ [s.heap.objs.size], s.heap.get? a = none := fun a ha => by rw [aN.mp ha]; exact g0 (bq _)
 have kp : ∀ b o, s.heap.get? b = some o -> (s.heap.push { cls := .type "dict", data := .dict #[] }).get? b = some o := fun b o e => br _ e
 have S0 : aq prog w cls RY (σ.own [s.heap.objs.size]) H (s.heap.push { cls := .type "dict", data := .dict #[] }) := S.enter W3 (by simp) (fun a ha => by rw [aN.mp ha]; exact ⟨_, cz _ rfl⟩) kp
 have R0 := R.enter W3 kp
 have Vg : ∀ {τ : Tk}, τ.pv = (σ.own [s.heap.objs.size]).pv -> ∀ a ∈ [s.heap.objs.size], a ∈ τ.pv := fun {τ} e a ha => by rw [e]; exact aV _ ha
 refine CS (wpAny_Dict_pairs (knd := strKind prog w) (EV h1 SZ) (fun e => h0 ?_) (by rw [SF, <-my h1]; exact VF) ?_)
 ·have e4 : ks.length = 0 := by rw [<-SF, e]; rfl
  exact ik (by rw [my h1]; exact e4)
 refine Nj ih ks vs SN es xs H H1 (σ.own [s.heap.objs.size]) _ _ h1 h2 SZ e1 rm R0 S0 fun R6 s1 ps R8 N1 cr r1 hl => ⟨SN.zip R8, cr, ?_, fun h' hd hs => ?_⟩
 ·have T8 : s.heap.objs.size ∉ (σ.own [s.heap.objs.size]).tr := S0.apart (aV _ aL)
  have := Qa (knd := strKind prog w) s.heap
  obtain ⟨o, Si, ep, ho, r⟩ := this
  exact ⟨o, Si, ep, N1.grow.keep _ _ T8 ho, r⟩
 ·have Ut : ∀ a ∈ [s.heap.objs.size], a ∈ R6.pv := Vg N1.grow.pv
  have dd : (Heap.DictOf (strKind prog w) h' s.heap.objs.size (SN.zip R8)) := by
   have e : tQ ([] : List (ac × aa)) (SN.zip R8) = SN.zip R8 := by
    have := NI (kvs := SN.zip R8) (acc := []) (by
     rw [kg, List.map_fst_zip (by trivial)]; exact nd)
    simpa using this
   rw [e] at hd; exact hd
  have Np : aX prog w cls RY [s.heap.objs.size] R6 s1 R6 H1 { s1 with heap := h', toks := s1.toks + ps.length } := o7 N1.sim Ut (fun b o nb e => hs.extBut b o (fun q => nb (by simp [q])) e) fun b o nb e => by
   rw [aN.mp nb]; obtain ⟨o, _, _, e, _⟩ := dd; exact ⟨o, e⟩
  have hlc : env.locals ∉ [s.heap.objs.size] := fun m => by
   obtain ⟨o, _, _, e, _⟩ := R.locs.choose_spec.1
   rw [aN.mp m] at e; exact absurd (dT e) (eR _)
  have Wq : ∀ x a, env.cells.lookup x = some a -> a ∉ [s.heap.objs.size] := fun x a e m => by
   obtain ⟨_, _, _, ov, o, ho, _⟩ := R.ncell x a e
   rw [aN.mp m] at ho; exact absurd (dT ho) (eR _)
  have R1 : aA env c loc R6 h' := (R0.grow N1.grow).growP Np.grow Ut hlc Wq
  refine ih k c t' sl WJ loc H1 _ H2 h3 e2 A env R6 _ rm R1 Np.sim _ _ fun Sf s2 u N2 r2 => ?_
  simp only [VR] at r2
  obtain ⟨tk, rfl⟩ := r2
  have Xq : s.heap.objs.size ∉ R6.tr := N1.sim.apart (Ut _ aL)
  have Zd : s2.heap.DictOf (strKind prog w) s.heap.objs.size (SN.zip R8) := by
   obtain ⟨o, Si, ep, ho, r⟩ := dd
   exact ⟨o, Si, ep, N2.grow.keep _ _ Xq ho, r⟩
  have r3 : an Sf s2.heap xs R8 := (r1.growP Np.grow Ut).grow N2.grow
  obtain ⟨v, hv, rv⟩ := IX r3 hl e3
  refine oG Zd.typeIs P6.lookup (wpAny_getItem_of (strKind_is _ _ _ _) Zd.mapOf hv ?_) (ops := [.ref s.heap.objs.size, .str x tk]) (by cases sl <;> first | rfl | exact absurd rfl (WW _ _ _ _))
  obtain ⟨t1, Vd, Wj⟩ := N1.grow.pre
  obtain ⟨t2, ZW, Z8⟩ := N2.grow.pre
  have V7 : Sf = ((σ.add t1).add t2).own [s.heap.objs.size] := by rw [ZW, Vd]; rfl
  subst V7
  have VY := N2.sim.nodup
  simp only [Tk.all, Tk.own, fL] at VY
  rw [bX] at VY
  obtain ⟨m1, m2, m3⟩ := VY
  rw [bX] at m2
  have S2 : aq prog w cls RY ((σ.add t1).add t2) H2 s2.heap := N2.sim.leave (τ := (σ.add t1).add t2) (fun b o u' e => e) rfl (fun a ha => be _ ha) m2.1 fun a ha => N2.sim.pvs a (be _ ha)
  have up : ∀ b o, b ∉ σ.tr -> s.heap.get? b = some o -> s2.heap.get? b = some o := fun b o nb e => by
   have b1 : b ∉ [s.heap.objs.size] := fun m => by rw [W3 b m] at e; cases e
   have e1 := N1.grow.keep b o nb (kp _ _ e)
   exact N2.grow.keep b o (N1.grow.memt nb (kp _ _ e)) (hs.extBut b o (fun q => b1 (by simp [q])) e1)
  refine h ((σ.add t1).add t2) _ v ⟨⟨⟨t1 ++ t2, by simp [Tk.add], fun a ha => ?_⟩, up⟩, S2, N2.gens.trans N1.gens, N2.os.trans N1.os⟩ (VR.leave (σ := (σ.add t1).add t2) (ps := [s.heap.objs.size]) (τ := (σ.add t1).add t2) (fun a na => Tk.all_own na) (fun u' u' e => e) (fun b o u' e => e) rv)
  cases e : s.heap.get? a with
  | none => rfl
  | some o =>
   rcases aW.mp ha with m | m
   ·have := Wj a m; rw [show ({ s with heap := s.heap.push { cls := .type "dict", data := .dict #[] } } : ae).heap.get? a = _ from kp _ _ e] at this; cases this
   ·have TT := Z8 a m
    by_cases q : a ∈ σ.tr
    ·obtain ⟨o', e'⟩ := Np.sim.there (a := a) (by rw [Vd]; exact aV _ q)
     rw [TT] at e'; cases e'
    ·have b1 : a ∉ [s.heap.objs.size] := fun m => by rw [W3 a m] at e; cases e
     have e1 := N1.grow.keep a o q (kp _ _ e)
     have e2 := hs.extBut a o (fun q => b1 (by simp [q])) e1
     rw [show ({ s1 with heap := h', toks := s1.toks + ps.length } : ae).heap.get? a = _ from e2] at TT; cases TT
end
end
section
section
variable {prog : aG} {w : aE} {cls : aZ} {RY : ao} {A : bm} {σ : Tk} {s : ae} {H H' : AH} {P : cn}
variable {n : Nat} {k : Nat} {c : TC} {loc R3 : Loc} {env : bH} {PL : List ak} {ev : E -> Loc -> AH -> Option (V × AH)}
theorem MF (e : SE prog w cls RY ev n) (ib : SB prog w cls RY ev n) {a b d : Expr} {a' b' d' : E} {t : Bool} {p : aJ} {y : V} {q : Bool} {H1 : AH} (h1 : ay k c false a = some a') (h2 : ay k c t b = some b') (h3 : ay k c t d = some d')
  (e1 : ev a' loc H = some (.bool q, H1)) (e2 : ev (if q = true then b' else d') loc H1 = some (y, H')) (rm : aR A n) (R : aA env c loc σ s.heap) (S : aq prog w cls RY σ H s.heap) : ct prog w cls RY A (eval (.IfExp a b d p) env) σ s y H' := fun Q E h => by
 refine IfExp_ ?_
 refine ib k c false a a' loc H q H1 h1 e1 A env σ s rm R S _ _ fun R6 s1 N1 => ?_
 cases q with
 | true => exact e k c t b b' loc H1 y H' h2 e2 A env R6 s1 rm (R.grow N1.grow) N1.sim _ _ fun Sf s2 v N2 r2 => h Sf s2 v (N1.trans N2) r2
 | false => exact e k c t d d' loc H1 y H' h3 e2 A env R6 s1 rm (R.grow N1.grow) N1.sim _ _ fun Sf s2 v N2 r2 => h Sf s2 v (N1.trans N2) r2
theorem cS {a b : Bool} (h : (a && b) = true) : a = true /\ b = true := bk.mp h
theorem gF {a b d e : Bool} (h : (a && !b && !d && e) = true) : a = true /\ b = false /\ d = false /\ e = true :=
 ⟨(cS (cS (cS h).1).1).1, mc (cS (cS (cS h).1).1).2, mc (cS (cS h).1).2, (cS h).2⟩
theorem te {a b d e : Bool} (h : (a && b && !d && e) = true) : a = true /\ b = true /\ d = false /\ e = true :=
 ⟨(cS (cS (cS h).1).1).1, (cS (cS (cS h).1).1).2, mc (cS (cS h).1).2, (cS h).2⟩
theorem vm {a b d : Bool} (h : (a && b && !d) = true) : a = true /\ b = true /\ d = false :=
 ⟨(cS (cS h).1).1, (cS (cS h).1).2, mc (cS h).2⟩
theorem Ca {t : Bool} {i : Nat} {b : Bi} (h : vk t i = some b) : (∀ n, dQ[i]? = some n -> (n, o8 b) ∈ h6) /\ b ≠ .sorted /\ b ≠ .sortedSet := by
 have VH : ∀ {i j : Nat} {m : ac} {b' : Bi}, dQ[i]? = some m -> h6[j]? = some (m, o8 b') -> b' ≠ .sorted /\ b' ≠ .sortedSet -> some b' = some b -> (∀ n, dQ[i]? = some n -> (n, o8 b) ∈ h6) /\ b ≠ .sorted /\ b ≠ .sortedSet :=
  fun e h n e' => eD e' fun e' => e' ▸ ⟨sX e (aT h), n⟩
 rcases i with _ | _ | _ | _ | _ | i
 ·exact VH (j := 0) rfl rfl (by decide) h
 ·exact VH (j := 1) rfl rfl (by decide) h
 ·exact VH (j := 2) rfl rfl (by decide) h
 ·exact VH (j := 4) rfl rfl (by decide) h
 ·cases t
  ·exact VH (j := 5) rfl rfl (by decide) h
  ·exact VH (j := 5) rfl rfl (by decide) h
 ·exact aD h
theorem Le {sl : Expr} (hs : mq sl = none) : ∀ l u st q, sl ≠ .Slice l u st q := fun l u st q e => by subst e; cases hs
theorem Hw {k : Nat} {c : TC} {t : Bool} {sl : Expr} {e' : E} (h : ay k c t sl = some e') : ∀ l u st q, sl ≠ .Slice l u st q := fun l u st q e => by
 rw [e] at h
 cases k with
 | zero => exact aD h
 | succ k => exact aD h
theorem LN {a' : E} {vs : List V} {G : Prop} (h : cW ev [a'] loc H = some (vs, H')) (g : ∀ va, vs = [va] -> ev a' loc H = some (va, H') -> G) : G :=
 qB h fun v H1 ws e1 h e2 => qH h fun e3 e4 => g v (by rw [e2, e3]) (e4 ▸ e1)
theorem Mf {f : Nat -> List V -> AH -> Option (V × AH)} {i : Nat} {vs : List V} {r : V × AH} (h : f (if (i == 20) = true then 1 else i) vs H = some r) : f (if i = 20 then 1 else i) vs H = some r := by
 by_cases q : i = 20
 ·rw [if_pos (beq_iff_eq.mpr q)] at h; rw [if_pos q]; exact h
 ·rw [if_neg fun z => q (beq_iff_eq.mp z)] at h; rw [if_neg q]; exact h
theorem BQ (W : Wd P cls RY) (X : nW prog w cls RY) (al : kW prog w cls RY P n) : SE prog w cls RY (I P (n + 1)).eval (n + 1) := by
 intro k c t e e' loc H y H' Sb R9 A env σ s VP R S
 have rm : aR A n := VP.le (io _)
 cases k with
 | zero => exact aD Sb
 | succ k =>
 cases Ac Sb with
 | const h => exact cU R9 _ fun ey eh => ey ▸ eh ▸ OL h S
 | name h => exact cU R9 _ fun e1 eh => eh ▸ F8 h e1 R S
 | bop h0 h => exact cU R9 _ fun e1 => Oi al.e _ _ y H H' σ s h e1 rm R S
 | bin h1 h2 h3 => exact cU R9 _ fun u' u' u' u' e1 e2 e3 => Jg al.e h1 h2 h3 e1 e2 e3 rm R S
 | neg h => exact cU R9 _ fun u' e1 ey => ey ▸ ME al.e h e1 rm R S
 | not h => exact cU R9 _ fun u' e1 ey => ey ▸ ES al.e h e1 rm R S
 | ite h1 h2 h3 => exact cU R9 _ fun u' u' e1 e2 => MF al.e al.b h1 h2 h3 e1 e2 rm R S
 | edict => exact cU R9 _ fun ey eh => ey ▸ eh ▸ Pp W.lim S
 | list h0 hl h => exact cU R9 _ fun u' u' e1 ey eh => ey ▸ eh ▸ HR al.e h0 h e1 rm R S (by rw [wu e1, my h]; trivial)
 | tup h0 hl h => exact cU R9 _ fun u' e1 ey => ey ▸ Pb al.e h0 (by trivial) h e1 rm R S (by rw [wu e1, my h]; trivial)
 | cmp hm h1 h2 h3 => exact cU R9 _ fun u' u' u' u' e1 e2 e3 ey => ey ▸ fun Q E h => wpAny_Compare1 (Ak al.e h1 h2 h3 e1 e2 e3 rm R S fun RZ s' N => h RZ s' _ N (by simp [VR])) hm
 | attr hn h1 h2 => exact cU R9 _ fun u' u' u' u' e1 e2 e3 e4 => FC W.B al.e hn h1 e1 (lQ h2) e2 e3 e4 rm R S
 | dictSel h1 h2 h3 q1 q2 q3 => exact cU R9 _ fun u' u' u' e1 e2 e3 => MU al.e h1 h2 h3 (Hw h3) q1 q2 (fun e => by rw [e] at e3; exact aD e3) q3 e1 e2 e3 rm R S
 | slice h1 h2 h3 => exact cU R9 _ fun u' u' u' u' u' u' u' u' u' e1 e2 e3 e4 e5 e6 ey eh => ey ▸ eh ▸ FN al.e h1 h2 h3 e1 e2 e3 e4 e5 e6 rm R S
 | sub hs h1 h2 => exact cU R9 _ fun u' u' u' e1 e2 e3 => MB al.e (Le hs) h1 h2 e1 e2 e3 rm R S
 | meth q h1 h2 h3 => exact cU R9 _ fun u' u' u' u' e1 e2 e3 => Lg W al.e al.c (te q).1 (te q).2.1 (te q).2.2.1 (of_decide_eq_true (te q).2.2.2) h2 h1 e1 h3 e2 e3 rm R S
 | fn q hi h => exact cU R9 _ fun u' u' e1 e2 => Km W al.e al.c (gF q).1 (gF q).2.1 (gF q).2.2.1 hi h e1 (Mf e2) rm R S
 | new q hi => exact cU R9 _ fun u' e1 e2 ey => ey ▸ Nl W al.c (gF q).1 (gF q).2.1 hi e1 e2 VP R S
 | bi q hi hb h => exact cU R9 _ fun u' u' e1 e2 => KC W al.e (gF q).1 (gF q).2.1 (gF q).2.2.1 hi (Ca hb).1 (Ca hb).2 h e1 e2 rm R S
 | sorted q hi h => exact cU R9 _ fun u' u' e1 e2 => Md W X al.e (gF q).1 (gF q).2.1 (gF q).2.2.1 hi h e1 e2 rm R S
 | sortedSet q hi hg h => exact cU R9 _ fun u' u' e1 e2 => LN e1 fun u' ev ZU => MK W X al.e (gF q).1 (gF q).2.1 (vm hg).1 (eq_of_beq (vm hg).2.1) (vm hg).2.2 hi h ZU (ev ▸ e2) rm R S
 | bad => exact (BB R9).elim
 | comp h1 h2 h3 h4 q => exact cU R9 _ fun u' u' u' u' u' e1 z1 z2 e2 ey eh => ey ▸ eh ▸ FS W al.e al.b (B2 h1 h2 h3 h4 q) e1 z2 e2 rm R S
theorem KT (W : Wd P cls RY) (X : nW prog w cls RY) (al : kW prog w cls RY P n) : SB prog w cls RY (I P (n + 1)).eval (n + 1) := by
 intro k c t e e' loc H b H' Sb R9 A env σ s VP R S Q E h
 have rm : aR A n := VP.le (io _)
 have Ye : isTrue e env (eval e env) = (do let v <-eval e env; tJ e.pos; iR [v] (truthy v)) -> af (am prog w) A (isTrue e env (eval e env)) Q E s := fun he =>
  isTrue_plain (BQ W X al k c t e e' loc H _ H' Sb R9 A env σ s VP R S _ _ fun R6 s1 v N1 r1 => by
   rw [show v = .bool b from r1]
   exact tI (h R6 s1 N1)) he
 cases k with
 | zero => exact aD Sb
 | succ k =>
 cases Ac Sb with
 | bop h0 h1 => exact cU R9 _ fun e1 => L4 al.b _ _ b H H' σ s (fun q => by rw [q] at h0; exact aY h0) h1 e1 rm R S _ _ h
 | not h1 =>
  refine cU R9 _ fun q e1 ey => ?_
  cases ey
  exact isTrue_not (al.b k c false _ _ loc H _ _ h1 e1 A env σ s rm R S _ _ fun R6 s1 N1 => h R6 s1 N1)
 | @ite a1 b1 d1 _ a' b' d' h1 h2 h3 =>
  refine cU R9 _ fun q H1 e1 e2 => isTrue_IfExp (al.b k c false a1 a' loc H q H1 h1 e1 A env σ s rm R S _ _ fun R6 s1 N1 => ?_)
  cases q with
  | true => exact al.b k c t b1 b' loc H1 b H' h2 e2 A env R6 s1 rm (R.grow N1.grow) N1.sim _ _ fun Sf s2 N2 => h Sf s2 (N1.trans N2)
  | false => exact al.b k c t d1 d' loc H1 b H' h3 e2 A env R6 s1 rm (R.grow N1.grow) N1.sim _ _ fun Sf s2 N2 => h Sf s2 (N1.trans N2)
 | cmp hm h1 h2 h3 =>
  refine cU R9 _ fun u' u' q u' e1 e2 e3 ey => ?_
  cases ey
  exact wpAny_isTrue_Compare1 (Ak al.e h1 h2 h3 e1 e2 e3 rm R S fun RZ s' N => tI (h RZ s' N)) hm
 | _ => exact Ye rfl
theorem DQ (W : Wd P cls RY) (X : nW prog w cls RY) (raw : uo = true) : ∀ n, kW prog w cls RY P n := by
 intro n
 induction n using Nat.strongRecOn with
 | _ n ih =>
  cases n with
  | zero =>
   exact ⟨fun k c t e e' loc H x H' u' h => (dH ((jg P 0).1 _ _ _) h).elim, fun k c t e e' loc H x H' u' h => (dH ((jg P 0).1 _ _ _) h).elim, fun k c st st' loc H fl R3 H' u' h => (iA ((jg P 0).2.1 _ _ _) h).elim, fun f vs H v H' h => (dH ((jg P 0).2.2 _ _ _) h).elim⟩
  | succ n =>
   have al := ih n (j7 n)
   exact ⟨BQ W X al, KT W X al, IQ W fun m hm => ih m (wY hm), JT W raw al⟩
end
end
section
theorem uJ {a b : Int} {r q : List Int} {G : Prop} (h : lexLt (a :: r) (b :: q) = true) (g : a < b -> G) (k : a = b -> lexLt r q = true -> G) : G := by
 replace h : (if a < b then true else if b < a then false else lexLt r q) = true := h
 by_cases q1 : a < b
 ·exact g q1
 ·rw [if_neg q1] at h
  by_cases q2 : b < a
  ·rw [if_pos q2] at h; exact aY h
  ·rw [if_neg q2] at h; exact k (CD (j9.mp q2) (j9.mp q1)) h
theorem kA {a b : Int} {r q : List Int} (h : a < b) : lexLt (a :: r) (b :: q) = true := if_pos h
theorem BE {a b : Int} {r q : List Int} (h : b < a) : lexLt (a :: r) (b :: q) = false := (if_neg (j9.mpr (mJ h))).trans (if_pos h)
theorem mG {a : Int} {r q : List Int} : lexLt (a :: r) (a :: q) = lexLt r q := (if_neg (mU a)).trans (if_neg (mU a))
theorem LG : ∀ a : List Int, lexLt a a = false := by
 intro a
 induction a with
 | nil =>
  exact rfl
 | cons _ r iH =>
  exact mG.trans (iH)
theorem Lc : ∀ {a b c : List Int}, lexLt a b = true -> lexLt b c = true -> lexLt a c = true := by
 intro a
 induction a with
 | nil =>
  intro _ _ h _
  exact aY h
 | cons Se q2' iH =>
  intro T5
  cases T5 with
  | nil =>
   intro _ h _
   exact aY h
  | cons q4' q5' =>
   intro TP
   cases TP with
   | nil =>
    intro _ h
    exact aY h
   | cons z c =>
    intro h1 h2
    exact uJ h1 (fun l1 => uJ h2 (fun l2 => kA (Int.lt_trans l1 l2)) fun e u' => kA (e ▸ l1)) fun e h1 => uJ h2 (fun l2 => kA (e ▸ l2)) fun e2 h2 => by
     rw [e, e2, mG]; exact iH h1 h2
theorem IA : ∀ {a b : List Int}, a.length = b.length -> lexLt a b = false -> lexLt b a = false -> a = b := by
 intro a
 induction a with
 | nil =>
  intro Se
  cases Se with
  | nil =>
   intro _ _ _
   exact rfl
  | cons q2' T5 =>
   intro h _ _
   exact (nomatch h)
 | cons q4' q5' iH =>
  intro TP
  cases TP with
  | nil =>
   intro h _ _
   exact (nomatch h)
  | cons y b =>
   intro h h1 h2
   by_cases q1 : q4' < y
   ·exact aY (h1.symm.trans (kA q1))
   by_cases q2 : y < q4'
   ·exact aY (h2.symm.trans (kA q2))
   have e : q4' = y := CD (j9.mp q2) (j9.mp q1)
   rw [e, mG] at h1 h2
   rw [e, iH (gC h) h1 h2]
noncomputable abbrev nE (c : Int) : ac := if c = 0 then "!=" else if c = 1 then "<=" else if c = 2 then "=" else ">="
theorem sY {s : ac} {c : Int} {G : Prop} (h : fM s = some c) (g : s = nE c -> c ∈ [(0 : Int), 1, 2, 3] -> G) : G :=
 ew h (fun q e => eD e fun e => g (e ▸ q) (e ▸ by decide)) fun u' h => ew h (fun q e => eD e fun e => g (e ▸ q) (e ▸ by decide)) fun u' h =>
  ew h (fun q e => eD e fun e => g (e ▸ q) (e ▸ by decide)) fun u' h => bT h fun q e => eD e fun e => g (e ▸ q) (e ▸ by decide)
theorem sQ {s : ac} {c : Int} (h : fM s = some c) : s = nE c := sY h fun e u' => e
theorem LR {s t : ac} {c : Int} (h1 : fM s = some c) (h2 : fM t = some c) : s = t := (sQ h1).trans (sQ h2).symm
theorem Br {a b : V} {k : List Int} (h1 : gU a = some k) (h2 : gU b = some k) : a = b :=
 pS h1 fun x s i c e1 e2 e3 => pS h2 fun x' s' i' c' e4 e5 e6 => by
  obtain ⟨q1, q⟩ := fw (e3.symm.trans e6)
  obtain ⟨q2, q⟩ := fw q
  obtain ⟨q3, _⟩ := fw q
  rw [e1, e4, q1, q3, LR e2 (q2 ▸ e5)]
theorem JK {a : V} {k : List Int} (h : gU a = some k) : k.length = 3 := pS h fun x s i c e1 e2 e3 => by rw [e3]; rfl
inductive Kd | num | lit | rank
noncomputable def Kd.len : Kd -> Nat
 | .num => 1
 | .lit => 3
 | .rank => 4
noncomputable def Kd.ok : Kd -> V -> Bool
 | .num => V.isInt
 | .lit => V.isLit
 | .rank => V.isRank
theorem rN {a : V} {G : Prop} (h : V.isLit a = true) (g : ∀ x s k c, a = .tup [.int x, .str s, .int k] -> fM s = some c -> G) : G := by
 obtain ⟨r, e⟩ := oK.mp h
 exact pS e fun x s k c e1 e2 u' => g x s k c e1 e2
theorem ky {a : V} (h : V.isLit a = true) : ∃ k, a.key = some k /\ k.length = 3 /\ gU a = some k := by
 obtain ⟨k, hk⟩ := oK.mp h
 refine ⟨k, ?_, JK hk, hk⟩
 refine pS hk fun x s i c e1 u' u' => ?_
 rw [e1] at hk ⊢
 show (gU _).or _ = _
 rw [hk]; rfl
theorem pV {a : V} (h : V.isRank a = true) : ∃ (x : Int) (l : V), a = .tup [.int x, l] /\ l.isLit = true := by
 obtain ⟨r, e⟩ := oK.mp h
 exact rA e fun l e1 e => qw e fun a b e2 e => fO e fun x e3 e => bd e fun k e4 u' => ⟨x, b, by rw [e1, e2, e3], oK.mpr ⟨k, e4⟩⟩
theorem pD {x : Int} {l : V} {k : List Int} (e : gU l = some k) : (V.tup [.int x, l]).key = some (x :: k) := by
 show (gU l).map (x :: ·) = _
 rw [e]; rfl
theorem nF {a : V} (h : V.isInt a = true) : ∃ i, a = .int i := by
 cases a with
 | int i => exact ⟨i, rfl⟩
 | _ => exact aY h
theorem on (d : Kd) {a : V} (h : d.ok a = true) : ∃ k, a.key = some k /\ k.length = d.len := by
 cases d with
 | num => obtain ⟨i, e⟩ := nF h; rw [e]; exact ⟨_, rfl, rfl⟩
 | lit => obtain ⟨k, h1, h2, _⟩ := ky h; exact ⟨k, h1, h2⟩
 | rank =>
  obtain ⟨x, l, e, h⟩ := pV h
  obtain ⟨k, h1, h2, h3⟩ := ky h
  rw [e]
  exact ⟨x :: k, pD h3, congrArg (· + 1) h2⟩
theorem DX (d : Kd) {a b : V} (ha : d.ok a = true) (hb : d.ok b = true) (e : a.key = b.key) : a = b := by
 cases d with
 | num =>
  obtain ⟨i, e1⟩ := nF ha
  obtain ⟨j, e2⟩ := nF hb
  rw [e1, e2] at e ⊢
  rw [(fw (aC e)).1]
 | lit =>
  obtain ⟨k, h1, _, h3⟩ := ky ha
  obtain ⟨k', Vr, _, W5⟩ := ky hb
  exact Br h3 (aC (h1.symm.trans (e.trans Vr)) ▸ W5)
 | rank =>
  obtain ⟨x, l, e1, Um⟩ := pV ha
  obtain ⟨y, l', e2, UP⟩ := pV hb
  obtain ⟨k, h1, _, h3⟩ := ky Um
  obtain ⟨k', Vr, _, W5⟩ := ky UP
  rw [e1, e2, pD h3, pD W5] at e
  obtain ⟨q1, q2⟩ := fw (aC e)
  rw [e1, e2, q1, Br h3 (q2 ▸ W5)]
theorem jE {a b : V} {x y : List Int} (ha : a.key = some x) (hb : b.key = some y) : V.lt a b = lexLt x y := by unfold V.lt; rw [ha, hb]; rfl
theorem lt_irrefl (d : Kd) {a : V} (ha : d.ok a = true) : V.lt a a = false := by
 obtain ⟨x, hx, _⟩ := on d ha
 rw [jE hx hx]; exact LG x
theorem lt_trans (d : Kd) {a b c : V} (ha : d.ok a = true) (hb : d.ok b = true) (hc : d.ok c = true) (h1 : V.lt a b = true) (h2 : V.lt b c = true) : V.lt a c = true := by
 obtain ⟨x, hx, _⟩ := on d ha
 obtain ⟨y, hy, _⟩ := on d hb
 obtain ⟨z, hz, _⟩ := on d hc
 rw [jE hx hy] at h1
 rw [jE hy hz] at h2
 rw [jE hx hz]; exact Lc h1 h2
theorem Ap (d : Kd) {a b : V} (ha : d.ok a = true) (hb : d.ok b = true) (h1 : V.lt a b = false) (h2 : V.lt b a = false) : a = b := by
 obtain ⟨x, hx, lx⟩ := on d ha
 obtain ⟨y, hy, ly⟩ := on d hb
 rw [jE hx hy] at h1
 rw [jE hy hx] at h2
 exact DX d ha hb (by rw [hx, hy, IA (lx.trans ly.symm) h1 h2])
def nK (l : List V) : Prop := l.Pairwise fun a b => V.lt b a = false
theorem B0 (x : V) : ∀ l : List V, (n6 x l).Perm (x :: l) := by
 intro l
 induction l with
 | nil =>
  exact C4 _
 | cons y r iH =>
  rw [AL]
  split
  ·exact C4 _
  ·exact ((iH).cons y).trans (List.Perm.swap x y r)
theorem fW : ∀ l : List V, (cq l).Perm l := by
 intro l
 induction l with
 | nil =>
  exact C4 _
 | cons x r iH =>
  exact (B0 x _).trans ((iH).cons x)
set_option tactic.hygienic true in
theorem ML (d : Kd) {x : V} : ∀ {l : List V}, d.ok x = true -> (∀ y ∈ l, d.ok y = true) -> nK l -> nK (n6 x l) := by
 intro l
 induction l with
 | nil =>
  intro _ _ _
  exact ng.mpr ⟨fun _ h => (nomatch h), .nil⟩
 | cons y r iH =>
  intro hx hl hs
  have Tq := ng.mp hs
  have hy := hl y aL
  rw [AL]
  split
  ·rename_i q
   refine ng.mpr ⟨fun z hz => ?_, hs⟩
   rcases aP.mp hz with e | e
   ·rw [e]
    cases h : V.lt y x with
    | false => rfl
    | true => have := lt_trans d hx hy hx q h; rw [lt_irrefl d hx] at this; cases this
   ·have UW := hl z (aQ _ e)
    cases h : V.lt z x with
    | false => rfl
    | true => have := lt_trans d UW hx hy h q; rw [Tq.1 z e] at this; cases this
  ·rename_i q
   refine ng.mpr ⟨fun z hz => ?_, iH hx (fun z hz => hl z (aQ _ hz)) Tq.2⟩
   rcases aP.mp ((B0 x r).mem_iff.mp hz) with e | e
   ·rw [e]; exact lq.mpr q
   ·exact Tq.1 z e
theorem mj (d : Kd) : ∀ {l : List V}, (∀ y ∈ l, d.ok y = true) -> nK (cq l) := by
 intro l
 induction l with
 | nil =>
  intro _
  exact List.Pairwise.nil
 | cons x r iH =>
  intro h
  exact ML d (h x aL) (fun y hy => h y (aQ _ ((fW r).mem_iff.mp hy))) (iH fun y hy => h y (aQ _ hy))
theorem rC (d : Kd) : ∀ {a b : List V}, (∀ y ∈ a, d.ok y = true) -> a.Perm b -> nK a -> nK b -> a = b := by
 intro a
 induction a with
 | nil =>
  intro b _ p _ _
  exact (List.Perm.nil_eq p)
 | cons x a iH =>
  intro Se
  cases Se with
  | nil =>
   intro _ p _ _
   exact absurd p.length_eq (Nat.succ_ne_zero _)
  | cons y b =>
   intro h p ha hb
   have Um := ng.mp ha
   have UP := ng.mp hb
   have Yy : ∀ z ∈ y :: b, d.ok z = true := fun z hz => h z (p.mem_iff.mpr hz)
   have e : x = y := by
    refine Ap d (h x aL) (Yy y aL) ?_ ?_
    ·rcases aP.mp (p.mem_iff.mp aL) with q | q
     ·rw [q]; exact lt_irrefl d (Yy y aL)
     ·exact UP.1 x q
    ·rcases aP.mp (p.mem_iff.mpr aL) with q | q
     ·rw [q]; exact lt_irrefl d (h x aL)
     ·exact Um.1 y q
   subst e
   rw [iH (fun z hz => h z (aQ _ hz)) (List.Perm.cons_inv p) Um.2 UP.2]
noncomputable def fD {α : Type} (lt : Nat -> Nat -> Bool) : KasT α -> α
 | .ret a => a
 | .ask i j k => fD lt (k (lt i j))
theorem IY {α : Type} {lt : Nat -> Nat -> Bool} {a : α} : fD lt (.ret a) = (a) := rfl
theorem NM {α : Type} {lt : Nat -> Nat -> Bool} {i j : Nat} {k : Bool -> KasT α} : fD lt (.ask i j k) = (fD lt (k (lt i j))) := rfl
noncomputable def g9 {α : Type} (n : Nat) : KasT α -> Bool
 | .ret _ => true
 | .ask i j k => decide (i < n) && decide (j < n) && g9 n (k true) && g9 n (k false)
theorem Gy {α : Type} {n : Nat} {u0 : α} : g9 n (.ret u0) = (true) := rfl
theorem M0 {α : Type} {n i j : Nat} {k : Bool -> KasT α} : g9 n (.ask i j k) = (decide (i < n) && decide (j < n) && g9 n (k true) && g9 n (k false)) := rfl
noncomputable def jG : Nat -> Nat -> List (List Nat)
 | 0, _ => [[]]
 | k + 1, n => (bQ n).flatMap fun i => (jG k n).map (i :: ·)
theorem yo  {u0} : jG  0 u0 = ([[]]) := rfl
theorem AG  {k} {n} : jG  (k + 1) n = ((bQ n).flatMap fun i => (jG k n).map (i :: ·)) := rfl
noncomputable def sC : List Nat -> Bool
 | a :: b :: r => decide (a <= b) && sC (b :: r)
 | _ => true
noncomputable def oq (n : Nat) (rs : List Nat) : Bool :=
 let p := (fD (fun i j => decide (rs.getD i 0 < rs.getD j 0)) (iS n)).toList
 p.isPerm (bQ n) && sC (p.map fun i => rs.getD i 0)
theorem LO : g9 2 (iS 2) = true := by decide +kernel
theorem J1 : g9 3 (iS 3) = true := by decide +kernel
theorem Ia : g9 4 (iS 4) = true := by decide +kernel
theorem Pq : (jG 2 2).all (oq 2) = true := by decide +kernel
theorem Eo : (jG 3 3).all (oq 3) = true := by decide +kernel
theorem JI : (jG 4 4).all (oq 4) = true := by decide +kernel
end
section
theorem HZ : ∀ {k n : Nat} {rs : List Nat}, rs.length = k -> (∀ r ∈ rs, r < n) -> rs ∈ jG k n := by
 intro k
 induction k with
 | zero =>
  intro n rs h _
  rw [ik h]; simp [yo, AG]
 | succ k iH =>
  intro n Se
  cases Se with
  | nil =>
   intro h _
   simp at h
  | cons r rs =>
   intro h hr
   simp only [yo, AG, List.mem_flatMap, nh, bg]
   exact ⟨r, hr r aL, rs, iH (by simpa using h) (fun x hx => hr x (aQ _ hx)), rfl⟩
theorem Fo {α : Type} {n : Nat} {lt lt' : Nat -> Nat -> Bool} (h : ∀ i j, i < n -> j < n -> lt i j = lt' i j) : ∀ {t : KasT α}, g9 n t = true -> fD lt t = fD lt' t := by
 intro t
 induction t with
 | ret a => exact fun u' => rfl
 | ask i j k iH =>
  intro ok
  simp only [Gy, M0, eU, decide_eq_true_eq] at ok
  obtain ⟨⟨⟨h1, h2⟩, h3⟩, h4⟩ := ok
  simp only [IY, NM]
  rw [h i j h1 h2]
  cases lt' i j
  ·exact iH _ h4
  ·exact iH _ h3
noncomputable def below (l : List V) (x : V) : Nat := (l.filter fun y => V.lt y x).length
theorem Ef {p q : V -> Bool} : ∀ {l : List V}, (∀ x ∈ l, p x = true -> q x = true) -> (l.filter p).length <= (l.filter q).length := by
 intro l
 induction l with
 | nil =>
  intro _
  exact bq _
 | cons x l iH =>
  intro h
  have ih := iH fun y hy => h y (aQ _ hy)
  have hx := h x aL
  simp only [tR]
  cases hp : p x <;> cases hq : q x <;> simp only [cu, if_false, if_true, iT]
  ·exact ih
  ·trivial
  ·rw [hp] at hx; rw [hx rfl] at hq; cases hq
  ·trivial
theorem vI {p q : V -> Bool} {z : V} (hp : p z = false) (hq : q z = true) : ∀ {l : List V}, z ∈ l -> (∀ x ∈ l, p x = true -> q x = true) -> (l.filter p).length < (l.filter q).length := by
 intro l
 induction l with
 | nil => exact fun hz => nomatch hz
 | cons x l iH =>
  intro hz h
  have le := Ef (p := p) (q := q) fun y hy => h y (aQ _ hy)
  have hx := h x aL
  by_cases e : z = x
  ·subst e
   simp only [tR, hp, hq, cu, if_false, if_true, iT]
   trivial
  ·have ih := iH (by rcases aP.mp hz with q | q; exact absurd q e; exact q) fun y hy => h y (aQ _ hy)
   simp only [tR]
   cases hp' : p x <;> cases hq' : q x <;> simp only [cu, if_false, if_true, iT]
   ·exact ih
   ·trivial
   ·rw [hp'] at hx; rw [hx rfl] at hq'; cases hq'
   ·trivial
theorem Aq (d : Kd) {l : List V} (ok : ∀ y ∈ l, d.ok y = true) {a b : V} (ha : a ∈ l) (hb : b ∈ l) : decide (below l a < below l b) = V.lt a b := by
 cases h : V.lt a b with
 | true =>
  refine decide_eq_true (vI (p := fun y => V.lt y a) (q := fun y => V.lt y b) (z := a) (lt_irrefl d (ok a ha)) h ha fun x hx q => lt_trans d (ok x hx) (ok a ha) (ok b hb) q h)
 | false =>
  refine decide_eq_false (QI ?_)
  cases h2 : V.lt b a with
  | true => exact j5 (vI (p := fun y => V.lt y b) (q := fun y => V.lt y a) (z := b) (lt_irrefl d (ok b hb)) h2 hb fun x hx q => lt_trans d (ok x hx) (ok b hb) (ok a ha) q h2)
  | false =>
   have e := Ap d (ok a ha) (ok b hb) h h2
   rw [e]; exact bq _
theorem NA (d : Kd) {l : List V} (ok : ∀ y ∈ l, d.ok y = true) {a : V} (ha : a ∈ l) : below l a < l.length := by
 have := vI (p := fun y => V.lt y a) (q := fun u' => true) (z := a) (lt_irrefl d (ok a ha)) rfl ha fun u' u' u' => rfl
 have e : (l.filter fun u' => true) = l := by simp
 rw [e] at this; exact this
theorem KP : ∀ {l : List Nat}, sC l = true -> l.Pairwise (· <= ·) := by
 intro l
 induction l with
 | nil =>
  intro _
  exact List.Pairwise.nil
 | cons a Se iH =>
  cases Se with
  | nil =>
   intro _
   simp
  | cons b r =>
   intro h
   simp only [sC, eU, decide_eq_true_eq] at h
   have ih := iH h.2
   refine ng.mpr ⟨fun x hx => ?_, ih⟩
   rcases aP.mp hx with e | e
   ·rw [e]; exact h.1
   ·exact cY h.1 ((ng.mp ih).1 x e)
theorem Bc {n : Nat} (h2 : 2 <= n) (h4 : n < 5) : g9 n (iS n) = true := by
 have : n = 2 \/ n = 3 \/ n = 4 := by trivial
 rcases this with rfl | rfl | rfl
 ·exact LO
 ·exact J1
 ·exact Ia
theorem JJ {n : Nat} (h2 : 2 <= n) (h4 : n < 5) : (jG n n).all (oq n) = true := by
 have : n = 2 \/ n = 3 \/ n = 4 := by trivial
 rcases this with rfl | rfl | rfl
 ·exact Pq
 ·exact Eo
 ·exact JI
theorem Hf (d : Kd) {l : List V} (ok : ∀ y ∈ l, d.ok y = true) (h2 : 2 <= l.length) (h4 : l.length < 5) :
  let p := (fD (fun i j => V.lt (l.getD i .none) (l.getD j .none)) (iS l.length)).toList
  p.Perm (bQ l.length) /\ p.map (fun i => l.getD i .none) = cq l := by
 intro p
 have get : ∀ {i}, i < l.length -> l.getD i .none ∈ l := fun {i} hi => by
  rw [ni, bR hi]; exact C5 hi
 have WY : ∀ {i}, i < l.length -> (l.map (below l)).getD i 0 = below l (l.getD i .none) := fun {i} hi => by
  rw [ni, ni, cM, bR hi]; rfl
 have e0 : fD (fun i j => V.lt (l.getD i .none) (l.getD j .none)) (iS l.length) = fD (fun i j => decide ((l.map (below l)).getD i 0 < (l.map (below l)).getD j 0)) (iS l.length) := by
  refine Fo (fun i j hi hj => ?_) (Bc h2 h4)
  rw [WY hi, WY hj, Aq d ok (get hi) (get hj)]
 have hr : oq l.length (l.map (below l)) = true := by
  refine bJ.mp (JJ h2 h4) _ (HZ (by simp) fun r hr => ?_)
  obtain ⟨y, hy, rfl⟩ := bg.mp hr
  exact NA d ok hy
 simp only [oq, eU, <-e0] at hr
 obtain ⟨hp, ha⟩ := hr
 have SU : p.Perm (bQ l.length) := List.isPerm_iff.mp hp
 refine ⟨SU, ?_⟩
 have hl : (bQ l.length).map (fun i => l.getD i .none) = l := by
  apply List.ext_getElem (by simp)
  intro i h1 h2
  have hi : i < l.length := by simpa using h1
  simp [ni, bR hi]
 have op : (p.map fun i => l.getD i .none).Perm l := by
  have := SU.map (fun i => l.getD i .none)
  rw [hl] at this; exact this
 have lt : ∀ i ∈ p, i < l.length := fun i hi => by simpa using SU.mem_iff.mp hi
 have WL : ∀ y ∈ p.map (fun i => l.getD i .none), d.ok y = true := fun y hy => ok y (op.mem_iff.mp hy)
 refine rC d WL (op.trans (fW l).symm) ?_ (mj d ok)
 have Zh := KP ha
 unfold nK
 rw [C6] at Zh ⊢
 refine List.Pairwise.imp_of_mem (fun {i j} hi hj q => ?_) Zh
 rw [WY (lt i hi), WY (lt j hj)] at q
 have := Aq d ok (get (lt j hj)) (get (lt i hi))
 rw [<-this]
 exact decide_eq_false (QI q)
end
section
theorem FG {α : Type} {cmp : Nat -> Nat -> (Bool -> ae -> Prop) -> ae -> Prop} {lt : Nat -> Nat -> Bool} {n : Nat} {s : ae}
  (hc : ∀ i j (C : Bool -> ae -> Prop), i < n -> j < n -> C (lt i j) s -> cmp i j C s) : ∀ {t : KasT α} {G : α -> ae -> Prop}, g9 n t = true -> G (fD lt t) s -> t.kasWp cmp G s := by
 intro t
 induction t with
 | ret a => exact fun u' h => h
 | ask i j k iH =>
  intro G ok h
  obtain ⟨ok, h4⟩ := cS ok
  obtain ⟨ok, h3⟩ := cS ok
  obtain ⟨h1, h2⟩ := cS ok
  refine hc i j _ (of_decide_eq_true h1) (of_decide_eq_true h2) ?_
  show (k (lt i j)).kasWp cmp G s
  replace h : G (fD lt (k (lt i j))) s := h
  cases e : lt i j with
  | false => rw [e] at h; exact iH _ h4 h
  | true => rw [e] at h; exact iH _ h3 h
section
variable {prog : aG} {w : aE} {A : bm} {E : aa -> ae -> Prop} {s : ae} {σ : Tk}
theorem vp {x y : Int} {t u : Tok} {Q : aa -> ae -> Prop} (hu : A.units < dR) (h : Q (.bool (decide (x < y))) s) : af (am prog w) A (tS .Lt (.int x t) (.int y u)) Q E s :=
 C7 (op := .Lt) (typeIs_int s x t) (typeIs_int s y u) slot_int_lt (call_int_lt ⟨by simp, h⟩) hu
theorem zt {x y : ac} {t u : Tok} {Q : aa -> ae -> Prop} (hu : A.units < dR) (h : Q (.bool (decide (x.cps.toList < y.cps.toList))) s) : af (am prog w) A (tS .Lt (.str x t) (.str y u)) Q E s :=
 C7 (op := .Lt) (typeIs_str s x t) (typeIs_str s y u) slot_str_lt (call_str_lt ⟨by simp, h⟩) hu
theorem Nr : ∀ i ∈ [(0 : Int), 1, 2, 3], ∀ j ∈ [(0 : Int), 1, 2, 3], decide ((nE i).cps.toList < (nE j).cps.toList) = decide (i < j) := by decide +kernel
theorem B5 {a b : ac} {i j : Int} (ha : fM a = some i) (hb : fM b = some j) : decide (a.cps.toList < b.cps.toList) = decide (i < j) :=
 sY ha fun e1 m1 => sY hb fun e2 m2 => by rw [e1, e2]; exact Nr i m1 j m2
inductive Fy (σ : Tk) (h : ao) (v : V) (u : aa) : Prop
 | mk (x : Int) (y : ac) (k c : Int) (a : ak) (o : de) (n : Nat) (t1 t2 t3 : Tok) (ev : v = .tup [.int x, .str y, .int k]) (es : fM y = some c) (eu : u = .ref a) (ho : h.get? a = some o) (hc : o.cls = .type "tuple") (hd : o.data = .seq #[.int x t1, .str y t2, .int k t3] n)
theorem pd {h : ao} {v : V} {u : aa} (hv : v.isLit = true) (r : VR σ h v u) : Fy σ h v u :=
 rN hv fun x y k c e es => by
  rw [e] at r
  obtain ⟨a, vs, eu, _, ⟨o, ho, hc, n, hd⟩, _, v1, q1, e1, ⟨t1, e2⟩, v2, q2, e3, ⟨t2, e4⟩, v3, q3, e5, ⟨t3, e6⟩, e7⟩ := r
  refine .mk x y k c a o n t1 t2 t3 e es eu ho hc ?_
  rw [hd, <-e2, <-e4, <-e6, <-show q3 = [] from e7, <-e5, <-e3, <-e1]
theorem zp {x x' k k' c c' : Int} {y y' : ac} (h : fM y = some c) (h' : fM y' = some c') :
  V.lt (.tup [.int x, .str y, .int k]) (.tup [.int x', .str y', .int k']) = if x = x' then (if y = y' then decide (k < k') else decide (c < c')) else decide (x < x') := by
 have key : ∀ {x k c : Int} {y : ac}, fM y = some c -> (V.tup [.int x, .str y, .int k]).key = some [x, c, k] := fun {x k c y} h => by
  show ((fM y).map _).or _ = _
  rw [h]; rfl
 have one : ∀ {a b : Int} {r q : List Int}, ¬ a = b -> lexLt (a :: r) (b :: q) = decide (a < b) := fun {a b r q} n => by
  rcases QJ n with l | l
  ·rw [kA l, decide_eq_true l]
  ·rw [BE l, decide_eq_false (j9.mpr (mJ l))]
 rw [jE (key h) (key h')]
 by_cases e : x = x'
 ·rw [if_pos e, e, mG]
  by_cases e2 : y = y'
  ·rw [if_pos e2, show c = c' from aC (h.symm.trans (e2 ▸ h')), mG]
   by_cases e3 : k = k'
   ·rw [e3, mG, decide_eq_false (mU _)]; rfl
   ·exact one e3
  ·rw [if_neg e2, one fun q => e2 (by rw [sQ h, sQ h', q])]
 ·rw [if_neg e, one e]
theorem Oz {a b : V} {u v : aa} {Q : Bool -> ae -> Prop} (hu : A.units < dR) (ha : a.isLit = true) (hb : b.isLit = true) (ra : VR σ s.heap a u) (rb : VR σ s.heap b v) (h : Q (V.lt a b) s) :
  af (am prog w) A (keyLt' (xB true) u v) Q E s := by
 obtain ⟨x, y, k, c, d, o, n, t1, t2, t3, ea, hs, eu, ho, hc, hd⟩ := pd ha ra
 obtain ⟨x', y', k', c', d', o', n', Xd, Xc, Xb, eb, Tq, ev, Th, TN, S8⟩ := pd hb rb
 rw [eu, ev]
 rw [ea, eb] at h
 rw [zp hs Tq] at h
 refine kat_lt ho hd Th S8 ?_
 show KatLex prog w A true false Q [(.int x t1, .int x' Xd), (.str y t2, .str y' Xc), (.int k t3, .int k' Xb)] 0 s
 refine tT (qV ?_)
 by_cases e : x = x'
 ·rw [if_pos e] at h
  rw [beq_iff_eq.mpr e]
  refine tU (tT (C8 ?_))
  by_cases e2 : y = y'
  ·rw [if_pos e2] at h
   rw [decide_eq_true e2]
   refine tU (tT (qV ?_))
   by_cases e3 : k = k'
   ·rw [beq_iff_eq.mpr e3]
    refine tU (kat_nil ?_)
    rw [show decide (k < k') = false from decide_eq_false (by trivial)] at h
    exact h
   ·rw [beq_eq_false_iff_ne.mpr e3]
    exact tV (kat_one _ _ (vp hu h))
  ·rw [if_neg e2] at h
   rw [decide_eq_false e2]
   refine tV (kat_one _ _ (zt hu ?_))
   show Q _ s
   rw [B5 hs Tq]; exact h
 ·rw [if_neg e] at h
  rw [beq_eq_false_iff_ne.mpr e]
  exact tV (oneLt_int h)
theorem GC (a b : ak) : gX.«tuple.__lt__» ⟨[.ref a, .ref b], []⟩ = (do
  if !(<-isInstance (.ref b) (.type "tuple")) then return <-ret .notImplemented
  let xs <-QK (.ref a)
  let ys <-QK (.ref b)
  for (x, y) in xs.toList.zip ys.toList do
   if !(<-eqBool x y) then
    rule "tuple.compare.by-the-first-pair-that-differs"
    return <-ret (<-tS .Lt x y)
  ret (Builtin.Tuple.tupleCompareSizes .Lt xs.size ys.size)) := by
 rfl
noncomputable def Pairs (prog : aG) (w : aE) (A : bm) (E : aa -> ae -> Prop) (Sk : Bool) (Q : aa -> ae -> Prop) (s : ae) : List (aa × aa) -> Prop
 | [] => Q (.bool Sk) s
 | (p, q) :: r => ∃ e, (∀ C : Bool -> ae -> Prop, C e s -> af (am prog w) A (eqBool p q) C E s) /\ (e = true -> Pairs prog w A E Sk Q s r) /\ (e = false -> af (am prog w) A (tS .Lt p q) Q E s)
theorem J2 {a b : ak} {oa ob : de} {xs ys : Array aa} {n m : Nat} {Q : aa -> ae -> Prop} (ha : s.heap.get? a = some oa) (da : oa.data = .seq xs n) (hb : s.heap.get? b = some ob) (cb : ob.cls = .type "tuple") (db : ob.data = .seq ys m)
  (h : Pairs prog w A E (decide (xs.size < ys.size)) Q s (xs.toList.zip ys.toList)) :
  af (am prog w) A (gX.«tuple.__lt__» ⟨[.ref a, .ref b], []⟩) (fun Sk s' => ∃ v, Sk = .done (.ret v) /\ Q v s') E s := by
 rw [GC]
 refine ah (tW (T := "tuple") ⟨ob, hb, cb⟩ isSubtype_tuple_tuple ?_)
 simp only [gf, cu, if_false]
 refine ah (QL ha da ?_)
 refine ah (QL hb db ?_)
 refine ah ?_
 generalize xs.toList.zip ys.toList = l at h
 induction l with
 | nil =>
  rw [tN]
  refine av ?_
  show af _ _ (ret (.bool (decide (xs.size < ys.size)))) _ _ s
  exact av ⟨_, rfl, h⟩
 | cons pq r ih =>
  obtain ⟨p, q⟩ := pq
  obtain ⟨e, he, h1, h2⟩ := h
  rw [js]
  refine ah (ah (he _ ?_))
  cases e with
  | true =>
   simp only [gf, cu, if_false]
   exact av (ih (h1 rfl))
  | false =>
   simp only [jt, if_true]
   refine ah (xA (ah (cZ (h2 rfl) (fun v s' hv => ?_) fun u' u' x => x)))
   refine ah (av (av ?_))
   exact av (av ⟨_, rfl, hv⟩)
theorem Gv {a b : V} {u v : aa} {Q : aa -> ae -> Prop} (hu : A.units + 8 < dR) (ha : a.isLit = true) (hb : b.isLit = true) (ra : VR σ s.heap a u) (rb : VR σ s.heap b v) (h : Q (.bool (V.lt a b)) s) :
  af (am prog w) A (tS .Lt u v) Q E s := by
 obtain ⟨x, y, k, c, d, o, n, t1, t2, t3, ea, hs, eu, ho, hc, hd⟩ := pd ha ra
 obtain ⟨x', y', k', c', d', o', n', Xd, Xc, Xb, eb, Tq, ev, Th, TN, S8⟩ := pd hb rb
 rw [eu, ev]
 rw [ea, eb] at h
 rw [zp hs Tq] at h
 have ta : s.TypeIs (.ref d) "tuple" := ⟨o, ho, hc⟩
 refine C7 (op := .Lt) ta ⟨o', Th, TN⟩ QM (nq QM ta PySem.F.entry_tuple_lt
  (J2 ho hd Th TN S8 ?_) (PySem.F.args_tuple_lt_2 _ _)) (by trivial)
 have XB : A.in1.units < dR := by
  have : A.in1.units <= A.units + 8 := by show A.units + 1 <= _; trivial
  trivial
 show Pairs prog w A.in1 E false _ s [(.int x t1, .int x' Xd), (.str y t2, .str y' Xc), (.int k t3, .int k' Xb)]
 refine ⟨x == x', fun C hC => qV hC, fun e => ?_, fun e => vp XB ?_⟩
 ·rw [if_pos (beq_iff_eq.mp e)] at h
  refine ⟨decide (y = y'), fun C hC => C8 hC, fun e => ?_, fun e => zt XB ?_⟩
  ·rw [if_pos (of_decide_eq_true e)] at h
   refine ⟨k == k', fun C hC => qV hC, fun e => ?_, fun e => vp XB ?_⟩
   ·rw [show decide (k < k') = false from decide_eq_false (by have := beq_iff_eq.mp e; trivial)] at h
    exact ⟨by simp, h⟩
   ·exact ⟨by simp, h⟩
  ·rw [if_neg (of_decide_eq_false e)] at h
   rw [B5 hs Tq]
   exact ⟨by simp, h⟩
 ·rw [if_neg (beq_eq_false_iff_ne.mp e)] at h
  exact ⟨by simp, h⟩
inductive LQ (σ : Tk) (h : ao) (v : V) (u : aa) : Prop
 | mk (i : Int) (l : V) (a : ak) (o : de) (n : Nat) (t : Tok) (q : aa) (ev : v = .tup [.int i, l]) (hl : l.isLit = true) (r : VR σ h l q) (eu : u = .ref a) (ho : h.get? a = some o) (hc : o.cls = .type "tuple") (hd : o.data = .seq #[.int i t, q] n)
theorem yr {h : ao} {v : V} {u : aa} (hv : v.isRank = true) (r : VR σ h v u) : LQ σ h v u := by
 obtain ⟨i, l, e, hl⟩ := pV hv
 rw [e] at r
 obtain ⟨a, vs, eu, _, ⟨o, ho, hc, n, hd⟩, _, v1, q1, e1, ⟨t1, e2⟩, v2, q2, e3, r2, e4⟩ := r
 refine .mk i l a o n t1 v2 e hl r2 eu ho hc ?_
 rw [hd, <-e2, <-show q2 = [] from e4, <-e3, <-e1]
theorem IP : ∀ c ∈ [(0 : Int), 1, 2, 3], mM (nE c) = true := by decide +kernel
theorem nO {l : V} (h : l.isLit = true) : aI 2 l = true :=
 rN h fun x y k c e es => sY es fun e1 m => by
  rw [e, e1]
  show (true && (mM (nE c) && (true && true))) = true
  rw [IP c m]; rfl
theorem Pz {i j : Int} {l l' : V} (h : l.isLit = true) (h' : l'.isLit = true) :
  V.lt (.tup [.int i, l]) (.tup [.int j, l']) = if i = j then V.lt l l' else decide (i < j) := by
 obtain ⟨c, k, _, e⟩ := ky h
 obtain ⟨c', k', _, e'⟩ := ky h'
 rw [jE (pD e) (pD e'), jE k k']
 by_cases q : i = j
 ·rw [if_pos q, q, mG]
 ·rw [if_neg q]
  rcases QJ q with l | l
  ·rw [kA l, decide_eq_true l]
  ·rw [BE l, decide_eq_false (j9.mpr (mJ l))]
theorem Jn {a b : V} {u v : aa} {Q : Bool -> ae -> Prop} (hu : A.units + 8 < dR) (ha : a.isRank = true) (hb : b.isRank = true) (ra : VR σ s.heap a u) (rb : VR σ s.heap b v) (h : Q (V.lt a b) s) :
  af (am prog w) A (keyLt' (xB true) u v) Q E s := by
 obtain ⟨i, l, d, o, n, t, q, ea, hl, rl, eu, ho, hc, hd⟩ := yr ha ra
 obtain ⟨i', l', d', o', n', t', q', eb, Ti, Yx, ev, Th, TN, S8⟩ := yr hb rb
 rw [eu, ev]
 rw [ea, eb] at h
 rw [Pz hl Ti] at h
 refine kat_lt ho hd Th S8 ?_
 show KatLex prog w A true false Q [(.int i t, .int i' t'), (q, q')] 0 s
 refine tT (qV ?_)
 by_cases e : i = i'
 ·rw [if_pos e] at h
  rw [beq_iff_eq.mpr e]
  obtain ⟨as, x1⟩ := VR.reads (nO hl) rl
  obtain ⟨bs, x2⟩ := VR.reads (nO Ti) Yx
  have y1 := mn 2 l (nO hl)
  have y2 := mn 2 l' (nO Ti)
  refine tU (tT (SeqAt.eqBoolOverData prog w A _ s q q' _ _ as bs _ x1 x2 y1.1 y2.1 (by have := y1.2; trivial) ?_))
  have key := Bg 2 l l' 2 (nO hl) (nO Ti)
  by_cases e2 : l = l'
  ·rw [key.mpr e2]
   refine tU (kat_nil ?_)
   rw [e2, lt_irrefl .lit Ti] at h
   exact h
  ·have : lv (cK l) (cK l') = false := by
    cases z : lv (cK l) (cK l') with
    | true => exact absurd (key.mp z) e2
    | false => rfl
   rw [this]
   exact tV (kat_one _ _ (Gv hu hl Ti rl Yx h))
 ·rw [if_neg e] at h
  rw [beq_eq_false_iff_ne.mpr e]
  exact tV (oneLt_int h)
end
end
section
section
variable {prog : aG} {w : aE} {A : bm} {E : aa -> ae -> Prop} {s : ae} {σ : Tk} {h : ao}
theorem an.at_ {l : List V} {vs : List aa} (r : an σ h l vs) {i : Nat} (hi : i < l.length) : VR σ h (l.getD i .none) (vs.getD i Value.none) := by
 have e1 : l[i]? = some (l.getD i .none) := by rw [ni, bR hi]; rfl
 obtain ⟨v, e, q⟩ := r.get e1
 have e2 : vs.getD i Value.none = v := by rw [ni, e]; rfl
 rw [e2]; exact q
theorem an.picked {l : List V} {vs : List aa} (r : an σ h l vs) : ∀ {p : List Nat}, (∀ i ∈ p, i < l.length) -> an σ h (p.map fun i => l.getD i .none) (p.map fun i => vs.getD i Value.none) := by
 intro p
 induction p with
 | nil =>
  intro _
  exact an.nil
 | cons i _ iH =>
  intro hp
  exact an.cons (r.at_ (hp i aL)) (iH fun j hj => hp j (aQ _ hj))
theorem an.ints {l : List V} {vs : List aa} (r : an σ h l vs) (hl : ∀ y ∈ l, y.isInt = true) : ∃ ns, IntsAre vs ns := by
 induction l generalizing vs with
 | nil => rw [show vs = [] from r]; exact ⟨[], .nil⟩
 | cons x l ih =>
  obtain ⟨v, q, e, r1, r2⟩ := r
  obtain ⟨ns, UI⟩ := ih r2 fun y hy => hl y (aQ _ hy)
  obtain ⟨i, ex⟩ := nF (hl x aL)
  rw [ex] at r1
  obtain ⟨t, et⟩ := r1
  rw [e, et]
  exact ⟨i :: ns, .cons i t UI⟩
theorem an.tups (l : List V) (hl : ∀ y ∈ l, ∃ i r, y = .tup (.int i :: r)) : ∀ {vs : List aa}, an σ h l vs -> ∃ fs, fs.length = l.length /\ KatTups h vs fs /\ ∀ f ∈ fs, ∃ i t, f = .int i t := by
 induction l with
 | nil => intro vs r; rw [show vs = [] from r]; exact ⟨[], rfl, KatTups.nil, fun u' h => (nomatch h)⟩
 | cons x l ih =>
  intro vs r
  obtain ⟨v, q, ev, r1, r2⟩ := r
  obtain ⟨fs, e, kt, hf⟩ := ih (fun y hy => hl y (aQ _ hy)) r2
  obtain ⟨i, z, ex⟩ := hl x aL
  rw [ex] at r1
  obtain ⟨a, us, eu, _, ⟨o, ho, hc, n, hd⟩, _, f, _, e1, ⟨t, et⟩, _⟩ := r1
  rw [ev, eu]
  refine ⟨.int i t :: fs, congrArg (· + 1) e, KatTups.cons ho hc hd ?_ kt, ?_⟩
  ·rw [<-fy, e1, et]; rfl
  ·intro g hg
   rcases aP.mp hg with e | hg
   ·exact ⟨i, t, e⟩
   ·exact hf g hg
noncomputable def Kd.kind : Kd -> SortKind
 | .num => oneType'
 | _ => xB true
theorem Gx (M : Model) (i : Int) (t : Tok) : Looks M h (oL (.int i t)) (.type "int") := Looks.of_pure rfl
theorem NR {d : Kd} (hd : d ≠ .num) {y : V} (hy : d.ok y = true) : ∃ i r, y = .tup (.int i :: r) := by
 cases d with
 | num => exact absurd rfl hd
 | lit => exact rN hy fun x y k c e u' => ⟨_, _, e⟩
 | rank => obtain ⟨x, l, e, _⟩ := pV hy; exact ⟨_, _, e⟩
theorem Ni (d : Kd) {l : List V} {vs : List aa} {Q : SortKind -> ae -> Prop} (r : an σ s.heap l vs) (ok : ∀ y ∈ l, d.ok y = true) (h2 : 2 <= l.length) (h : Q d.kind s) : af (am prog w) A (keyKind' vs.toArray) Q E s := by
 by_cases hd : d = .num
 ·subst hd
  obtain ⟨ns, hI⟩ := r.ints ok
  have hl := r.length
  match vs, hl with
  | [], hl => simp only [xC] at hl; trivial
  | [_], hl => simp only [iT, xC] at hl; trivial
  | v₁ :: v₂ :: Sa, _ => rw [keyKind_ints hI]; exact av h
 ·obtain ⟨fs, e, kt, hf⟩ := r.tups l fun y hy => NR hd (ok y hy)
  refine kat_kind kt (by trivial) (T := .type "int") (fun v hv => ?_) rfl ?_
  ·obtain ⟨i, t, rfl⟩ := hf v hv
   exact Gx _ _ _
  ·have : xB (Value.type "int" != Value.type "tuple") = d.kind := by cases d <;> first | rfl | exact absurd rfl hd
   rw [this]; exact h
theorem LI (d : Kd) {l : List V} {vs : List aa} (hu : A.units + 8 < dR) (r : an σ s.heap l vs) (ok : ∀ y ∈ l, d.ok y = true) (i j : Nat) (C : Bool -> ae -> Prop) (hi : i < l.length) (hj : j < l.length)
  (h : C (V.lt (l.getD i .none) (l.getD j .none)) s) : kas_ask prog w A d.kind vs i j C s := by
 have ri := r.at_ hi
 have rj := r.at_ hj
 have get : ∀ {i}, i < l.length -> l.getD i .none ∈ l := fun {i} hi => by
  rw [ni, bR hi]; exact C5 hi
 have oi := ok _ (get hi)
 have oj := ok _ (get hj)
 unfold kas_ask
 revert ri rj oi oj h
 generalize l.getD i .none = a
 generalize l.getD j .none = b
 generalize vs.getD i Value.none = u
 generalize vs.getD j Value.none = v
 intro h ri rj oi oj
 cases d with
 | num =>
  obtain ⟨x, ea⟩ := nF oi
  obtain ⟨y, eb⟩ := nF oj
  rw [ea] at ri h
  rw [eb] at rj h
  obtain ⟨t, eu⟩ := ri
  obtain ⟨t', ev⟩ := rj
  rw [eu, ev]
  refine kat_lt_int ?_
  have : V.lt (.int x) (.int y) = decide (x < y) := by
   show lexLt [x] [y] = _
   by_cases e : x < y
   ·rw [kA e, decide_eq_true e]
   ·rw [decide_eq_false e]
    exact (if_neg e).trans (ite_self _)
  rw [<-this]; exact h
 | lit => exact Oz (by trivial) oi oj ri rj h
 | rank => exact Jn hu oi oj ri rj h
theorem DS {l : List V} (h : l.length < 2) : cq l = l := by
 match l, h with
 | [], _ => rfl
 | [_], _ => rfl
 | _ :: _ :: _, h => simp at h; trivial
theorem Fk (d : Kd) {a : ak} {vs : List aa} {n : Nat} {l : List V} {P : PySem.Fin -> ae -> Prop} (hu : A.units + 8 < dR) (ho : s.heap.get? a = some (cC "list" vs.toArray n)) (ok : ∀ y ∈ l, d.ok y = true) (h4 : l.length < 5)
  (Xr : an σ (((s.heap.update a (eS fun u' => (#[] : Array aa))).push (cC "tuple" vs.toArray 0)).push (cC "list" #[] 0)) l vs)
  (h : ∀ out : List aa, out.length = vs.length -> (∀ h', an σ h' l vs -> an σ h' (cq l) out) -> P (.done (.ret .none)) { s with heap := tX s.heap a vs out.toArray }) :
  af (am prog w) A (gX.«list.sort» ⟨[.ref a], []⟩) P E s := by
 have Sx := Xr.length
 rw [list_sort_plain]
 have ha : a < s.heap.objs.size := dT ho
 refine ah (listItems_at ho rfl ?_)
 refine ah (oP ho rfl ?_ (by simp [cQ]; trivial))
 obtain ⟨e1, ho1⟩ : ∃ e1, (s.heap.update a (eS fun u' => #[])).get? a = some (cC "list" #[] e1) := ⟨_, oQ ho (fun u' => #[])⟩
 refine ah (C9 ho1 rfl ?_)
 refine ah (wpAny_newTuple ?_ (by simp [cQ]; trivial))
 refine ah (xD ?_)
 refine dS ?_
 have VB : (((s.heap.update a (eS fun u' => #[])).push (cC "tuple" vs.toArray 0)).push (cC "list" #[] 0)).get? a = some (cC "list" #[] e1) := by
  rw [QN _ _ _ (by rw [qW, tY]; exact cB (j6 ha)), QN _ _ _ (by rw [tY]; exact cB ha)]
  exact ho1
 show af (am prog w) A _ P E { s with heap := ((s.heap.update a (eS fun u' => #[])).push (cC "tuple" vs.toArray 0)).push (cC "list" #[] 0) }
 dsimp only
 have Tn : vs.toArray.size = vs.length := by simp
 by_cases h2 : vs.toArray.size < 2
 ·rw [if_pos h2, if_pos h2]
  refine ah (av ?_)
  rw [StateT.run_pure]
  refine ah (av ?_)
  dsimp only
  have eo : (arrOf (SortSt.mk' general' (vs.toArray.zip vs.toArray) #[] 7 none)).map (·.2) = vs.toArray := by
   show (vs.toArray.zip vs.toArray).map (·.2) = vs.toArray
   rw [Array.map_snd_zip (by simp)]
  rw [eo]
  refine ah (C9 VB rfl ?_)
  refine ah (oP VB rfl ?_ (hsz2 := by simp [cQ]; trivial))
  simp only [bne_self_eq_false, cu, if_false]
  refine av (h vs rfl fun h' r => ?_)
  rw [DS (by trivial)]; exact r
 ·rw [if_neg h2, if_neg h2]
  have TT : 2 <= l.length := by trivial
  refine ah (Ni d (σ := σ) Xr ok TT ?_)
  obtain ⟨SU, XQ⟩ := Hf d ok TT h4
  have run := kat_run (prog := prog) (w := w) (A := A) (E := E) (κ := d.kind) (ks := vs) (vs := vs)
   (s := { s with heap := ((s.heap.update a (eS fun u' => #[])).push (cC "tuple" vs.toArray 0)).push (cC "list" #[] 0) })
   (Q := fun st' s' => s' = { s with heap := ((s.heap.update a (eS fun u' => #[])).push (cC "tuple" vs.toArray 0)).push (cC "list" #[] 0) } /\ failedOf st' = none ∧
    (arrOf st').map (·.2) = List.toArray ((fD (fun i j => V.lt (l.getD i .none) (l.getD j .none)) (iS l.length)).toList.map fun i => vs.getD i Value.none))
   (G := fun p s' => p = fD (fun i j => V.lt (l.getD i .none) (l.getD j .none)) (iS l.length) /\ s' = { s with heap := ((s.heap.update a (eS fun u' => #[])).push (cC "tuple" vs.toArray 0)).push (cC "list" #[] 0) })
   rfl (by trivial) (by trivial) (fun p st' s' hp X5 hf hG => by obtain ⟨rfl, rfl⟩ := hG; exact ⟨rfl, hf, kat_snds rfl X5⟩)
   (by
    rw [<-Sx]
    exact FG (n := l.length) (fun i j C hi hj hC => LI d hu Xr ok i j C hi hj hC) (Bc TT h4) ⟨rfl, rfl⟩)
  refine ah (cZ run (fun r s' hr => ?_) fun u' u' x => x)
  obtain ⟨rfl, hf, X5⟩ := hr
  rw [X5]
  refine ah (C9 VB rfl ?_)
  have lt : ∀ i ∈ (fD (fun i j => V.lt (l.getD i .none) (l.getD j .none)) (iS l.length)).toList, i < l.length := fun i hi => by simpa using SU.mem_iff.mp hi
  have ln : ((fD (fun i j => V.lt (l.getD i .none) (l.getD j .none)) (iS l.length)).toList.map fun i => vs.getD i Value.none).length = vs.length := by
   rw [aM, SU.length_eq, qR, Sx]
  refine ah (oP VB rfl ?_ (hsz2 := by rw [qM, ln, cQ]; trivial))
  rw [hf]
  simp only [bne_self_eq_false, cu, if_false]
  refine av (h _ ln fun h' r => ?_)
  rw [<-XQ]
  exact r.picked lt
end
end
section
section
variable {prog : aG} {w : aE} {cls : aZ} {RY : ao} {A : bm} {s : ae} {σ : Tk} {H : AH}
theorem aq.fresh_ (S : aq prog w cls RY σ H s.heap) {a : ak} (ha : s.heap.get? a = Option.none) : a ∉ σ.all := fun hm => by
 rcases aW.mp hm with q | q
 ·obtain ⟨o, e⟩ := S.pvs a q; rw [ha] at e; cases e
 ·obtain ⟨o, e⟩ := S.there q; rw [ha] at e; cases e
theorem vZ (d : Kd) {l : List V} {vs : List aa} {h3 : ao} {D : ak} {Q : aa -> ae -> Prop} {E : aa -> ae -> Prop} (rm : aR A 0) (S : aq prog w cls RY σ H s.heap) (ok : ∀ y ∈ l, d.ok y = true) (h4 : l.length < 5) (r : an σ s.heap l vs) {t : Nat}
  (k3 : ∀ b o, s.heap.get? b = some o -> h3.get? b = some o) (hD : s.heap.get? D = Option.none) (Uu : h3.get? D = some (cC "list" vs.toArray 0))
  (h : ∀ RZ s' v, Nx prog w cls RY σ s RZ H s' -> VR RZ s'.heap (.lst (cq l)) v -> Q v s') :
  af (am prog w) A.in1 (call (.builtin "list.sort") [.ref D]) (fun u' s' => Q (.ref D) s') E { s with heap := h3, toks := t } := by
 have hu : A.in1.in1.units + 8 < dR := by
  have := rm.units
  have : A.in1.in1.units <= A.units + 2 := by show A.units + 1 + 1 <= _; trivial
  trivial
 have ne : ∀ b o, s.heap.get? b = some o -> b ≠ D := fun b o e q => by rw [q, hD] at e; cases e
 have aab : D < h3.objs.size := dT Uu
 have V2 : ∀ b o, s.heap.get? b = some o -> (((h3.update D (eS fun u' => (#[] : Array aa))).push (cC "tuple" vs.toArray 0)).push (cC "list" #[] 0)).get? b = some o := fun b o e => by
  refine br _ (br _ ?_)
  rw [oU _ _ _ _ (ne b o e)]
  exact k3 b o e
 refine nq slot_list_sort ⟨_, Uu, rfl⟩ entry_list_sort (Fk d (σ := σ) (l := l) hu Uu ok h4 (an.grow (Nx.of (s' := { s with heap := _ }) S V2 rfl rfl).grow r) fun out ho Vh => ⟨_, rfl, ?_⟩) (args_list_sort _)
 obtain ⟨e1, ho1⟩ : ∃ e1, (h3.update D (eS fun u' => #[])).get? D = some (cC "list" #[] e1) := ⟨_, oQ Uu (fun u' => #[])⟩
 have VB : (((h3.update D (eS fun u' => #[])).push (cC "tuple" vs.toArray 0)).push (cC "list" #[] 0)).get? D = some (cC "list" #[] e1) :=
  br _ (br _ ho1)
 obtain ⟨e2, ho7⟩ : ∃ e2, (tX h3 D vs out.toArray).get? D = some (cC "list" out.toArray e2) := ⟨_, oQ VB (fun u' => out.toArray)⟩
 have Xv : ∀ b o, s.heap.get? b = some o -> (tX h3 D vs out.toArray).get? b = some o := fun b o e => by
  unfold tX
  rw [oU _ _ _ _ (ne b o e)]
  exact V2 b o e
 have N : Nx prog w cls RY σ s σ H { s with heap := tX h3 D vs out.toArray, toks := t } := Nx.of S Xv rfl rfl
 refine h σ _ _ N ?_
 simp only [VR]
 have r' := Vh _ (an.grow N.grow r)
 refine ⟨D, out.toArray, rfl, S.fresh_ hD, ⟨_, ho7, rfl, _, rfl⟩, ?_, ?_, .inr ⟨e2, ho7⟩⟩
 ·have := r'.length
  have := r.length
  trivial
 ·exact r'
theorem JR (d : Kd) {l : List V} {vs : List aa} {b : ak} (rm : aR A 0) (S : aq prog w cls RY σ H s.heap) (hl : s.heap.IsList b vs.toArray) (ok : ∀ y ∈ l, d.ok y = true) (h4 : l.length < 5) (r : an σ s.heap l vs) :
  ct prog w cls RY A (call (.builtin "sorted") [.ref b]) σ s (.lst (cq l)) H := fun Q E h => by
 have Sx := r.length
 refine Da Db Dc Dd (De _) ?_
 unfold gX.«sorted»
 refine ah (m := Df "sorted" 1 1 _) (av ?_)
 refine ah (collect_list hl ?_ (by rw [cQ]; trivial))
 refine ah (xD ?_ (by rw [cQ]; trivial))
 have Tn : ((s.heap.push (cC "list" #[] 0)).update s.heap.objs.size (eS (· ++ vs.toArray))).objs.size = s.heap.objs.size + 1 := by
  rw [tY, qW]
 have Uu : (((s.heap.push (cC "list" #[] 0)).update s.heap.objs.size (eS (· ++ vs.toArray))).push (cC "list" vs.toArray 0)).get? (s.heap.objs.size + 1) = some (cC "list" vs.toArray 0) := by
  rw [<-Tn]; exact cz _ rfl
 show af _ _ _ _ _ { s with heap := ((s.heap.push (cC "list" #[] 0)).update s.heap.objs.size (eS (· ++ vs.toArray))).push (cC "list" vs.toArray 0) }
 rw [Tn]
 refine ah (dS (cZ (vZ d (A := A) (t := s.toks) rm S ok h4 r (fun b o e => ?_) (g0 (io _)) Uu h) (fun u' s' hq => ?_) fun u' u' x => x))
 ·have SV := dT e
  refine br _ ?_
  rw [oU _ _ _ _ (cB SV)]
  exact br _ e
 ·exact av ⟨_, rfl, hq⟩
end
end
section
section
variable {prog : aG} {w : aE} {cls : aZ} {RY : ao} {A : bm} {s : ae} {σ : Tk} {H : AH} {E : aa -> ae -> Prop}
theorem Gs {s s' : ae} (a1 : s'.gens = s.gens) (a2 : s'.drawn = s.drawn) (a3 : s'.os = s.os) : s' = { s with heap := s'.heap, toks := s'.toks } := by
 rw [<-a1, <-a2, <-a3]
theorem EJ {d : ak} {kvs : List (Int × aa)} {Q : List aa -> ae -> Prop} (hh : A.handled = none) (hd : (d == xa) = false) (hm : s.heap.DictOf (lr prog w) d kvs) (hn : kvs.length <= fv)
  (h : ∀ (acc : Array aa) (h' : ao) (t : Nat), (∀ b o, s.heap.get? b = some o -> h'.get? b = some o) -> ItemsOf (fun i v => ∃ k x, kvs[i]? = some (k, x) /\ (lr prog w).is k v = true) acc kvs.length -> Q acc.toList { s with heap := h', toks := t }) :
  af (am prog w) A (xE (.ref d)) Q E s := by
 have hT := hm.typeIs
 obtain ⟨ep, Y2⟩ := hm.dictAt
 have Wo : d < s.heap.objs.size := by obtain ⟨o, ho, _⟩ := hT; exact dT ho
 have X8 : s.heap.objs.size ≠ d := xj Wo
 unfold xE
 refine ah (Dg (nr QO ?_))
 rw [oV QP _]
 show af _ A.in1 (tF [] >>= fun l => again (.builtin "list.__iadd__" ⟨[l, .ref d], []⟩)) _ _ s
 refine ah (gZ ?_)
 refine av ⟨qX xF _, nr QQ ?_⟩
 rw [oV xF _]
 have Un : (s.heap.push { cls := .type "list", data := .seq ([] : List aa).toArray }).get? s.heap.objs.size = some { cls := .type "list", data := .seq ([] : List aa).toArray } := cz _ rfl
 have h1 : xG (.ref s.heap.objs.size) (.ref d) = false := by simp [xG, X8]
 have k1 : ∀ b o, s.heap.get? b = some o -> (s.heap.push { cls := .type "list", data := .seq ([] : List aa).toArray }).get? b = some o := fun b o e => br _ e
 have Wu := Y2.at' (h' := s.heap.push { cls := .type "list", data := .seq ([] : List aa).toArray }) fun o e => k1 d o e
 have X7 : Dh { s with heap := s.heap.push { cls := .type "list", data := .seq ([] : List aa).toArray } } (.ref d) "dict" := Wu.dictOf.typeIs
 show af _ A.in1 (xH (.ref s.heap.objs.size) (.ref d) (.ref s.heap.objs.size)) _ _ _
 unfold xH
 refine ah (tZ X7 ?_)
 rw [if_neg (by rw [h1]; decide)]
 refine ah (wpAny_pyIter_dict hd Wu ?_)
 refine ah (dS ?_)
 have hI : (s.heap.push { cls := .type "list", data := .seq ([] : List aa).toArray }).objs.size = s.heap.objs.size + 1 := qW _ _
 rw [hI]
 generalize hh2 : (s.heap.push { cls := .type "list", data := .seq ([] : List aa).toArray }).push { cls := .type "dict_keyiterator", data := .fields #[.ref d, .int 0 0, .int kvs.length 0, .int ep 0] } = h2
 have k2 : ∀ b o, s.heap.get? b = some o -> h2.get? b = some o := fun b o e => by rw [<-hh2]; exact br _ (k1 b o e)
 have Vo : Dh { s with heap := h2 } (.ref d) "dict" := (hm.at fun o e => k2 d o e).typeIs
 have WR : h2.objs.size = s.heap.objs.size + 2 := by rw [<-hh2, qW, qW]
 have Tv : h2.get? s.heap.objs.size = some { cls := .type "list", data := .seq ([] : List aa).toArray } := by rw [<-hh2]; exact br _ Un
 have XT : h2.IsKeyIter (s.heap.objs.size + 1) d 0 kvs.length ep := by
  rw [<-hI, <-hh2]; exact ⟨_, cz _ rfl, rfl, rfl⟩
 have X4 : h2.DictAt (lr prog w) d kvs ep := Y2.at' fun o e => k2 d o e
 show af _ A.in1 (xI (.ref d)) _ _ { s with heap := h2 }
 unfold xI
 refine ah (Di Vo PySem.F.slot_dict_len.lookup ?_)
 generalize dJ : ("dict.__len__" : String) = id0
 wp_delta
 rw [show splitId id0 = some ("dict", "__len__") from by subst dJ; decide +kernel, <-dJ]
 refine ah (tW (b := true) Vo (by rw [xJ]; kernel_rfl) ?_)
 show af _ A.in1 (oL (.ref d) >>= _) _ _ { s with heap := h2 }
 refine ah (tZ Vo ?_)
 refine av ?_
 rw [if_pos (by decide)]
 refine ah (xA ?_)
 show af _ A.in1 ((xK (.ref s.heap.objs.size) (·.push .none) >>= fun u' => xK (.ref s.heap.objs.size) (·.pop)) >>= _) _ _ { s with heap := h2 }
 refine ah (ah (oP Tv rfl ?_ (dZ _) (by show 1 <= fv + 1; trivial)))
 have Tu := oQ (c := "list") Tv (fun xs => xs.push Value.none)
 refine oP Tu rfl ?_ (by show 1 <= fv; rw [cQ]; trivial) (by show 0 <= fv + 1; trivial)
 have Tt := oQ (c := "list") Tu (fun xs => xs.pop)
 generalize hh4 : (h2.update s.heap.objs.size (eS fun xs => xs.push Value.none)).update s.heap.objs.size (eS fun xs => xs.pop) = h4 at Tt ⊢
 have k4 : ∀ b o, b ≠ s.heap.objs.size -> h2.get? b = some o -> h4.get? b = some o := fun b o n e => by
  rw [<-hh4, oU _ _ _ _ n, oU _ _ _ _ n]; exact e
 have hz4 : h4.objs.size = s.heap.objs.size + 2 := by rw [<-hh4, tY, tY, WR]
 have W := (Walks.dictKeys (prog := prog) (w := w) (knd := lr prog w) (A := A.in1) hh (s.heap.objs.size + 1) d (cB (j6 Wo)) kvs ep).toS
 refine av ⟨qX QR _, QS W hn s.heap.objs.size (by simp [X8]) _ kvs.length 0 _ #[] _ rfl (dZ _) ⟨XT.at fun o e => k4 _ o (by trivial) e, X4.at' fun o e => k4 d o (lD X8) e⟩ Tt (QT _) fun s' Tl c' UJ X9 Ts => ?_⟩
 show af _ A (load s.heap.objs.size >>= _) _ _ s'
 refine ah (xo X9 ?_)
 refine av ?_
 rw [Gs UJ.gens UJ.drawn UJ.os]
 refine h Tl s'.heap s'.toks (fun b o eb => ?_) Ts
 have := dT eb
 exact UJ.heap b o (by simp only [aP, gb, or_false, not_or]; exact ⟨cB this, cB (j6 this)⟩) (k4 b o (cB this) (k2 b o eb))
theorem J8 {σ : Tk} {h : ao} : ∀ {ks : List Int} {vs : List aa}, ks.length = vs.length -> (∀ (i : Nat) (v : aa), vs[i]? = some v -> ∃ (k : Int) (t : Tok), ks[i]? = some k /\ v = Value.int k t) -> an σ h (ks.map V.int) vs := by
 intro ks
 induction ks with
 | nil =>
  intro vs e _
  rw [ik e.symm]; exact an.nil
 | cons k ks iH =>
  intro Se
  cases Se with
  | nil =>
   intro e _
   simp at e
  | cons v vs =>
   intro e h
   obtain ⟨k', t, e1, rfl⟩ := h 0 v rfl
   simp at e1; subst e1
   refine an.cons (by simp only [VR]; exact ⟨t, rfl⟩) (iH (by simpa using e) fun i v hv => ?_)
   obtain ⟨ZN, t', e1, e2⟩ := h (i + 1) v (by simpa using hv)
   exact ⟨ZN, t', by simpa using e1, e2⟩
theorem Fx {l : List (Int × V)} {kvs : List (Int × aa)} {d : ak} (rm : aR A 0) (S : aq prog w cls RY σ H s.heap) (hd : (d == xa) = false) (hm : s.heap.DictOf (lr prog w) d kvs) (r : cG σ s.heap l kvs) (h4 : l.length < 5) :
  ct prog w cls RY A (call (.builtin "sorted") [.ref d]) σ s (.lst (cq (l.map fun p => .int p.1))) H := fun Q E h => by
 have hk := r.keys
 have Sx : kvs.length = l.length := by have := congrArg t0 hk; simpa using this
 refine Da Db Dc Dd (De _) ?_
 unfold gX.«sorted»
 refine ah (m := Df "sorted" 1 1 _) (av ?_)
 refine ah (EJ (A := A.in1) rm.handled hd hm (by rw [cQ]; trivial) fun acc h' t keep Ts => ?_)
 have X6 : acc.toList.length = kvs.length := by simpa using Ts.1
 refine ah (xD ?_ (by rw [cQ]; trivial))
 have N : Nx prog w cls RY σ s σ H { s with heap := h' } := Nx.of S keep rfl rfl
 have hv : an σ s.heap (l.map fun p => V.int p.1) acc.toList := by
  have := J8 (σ := σ) (h := s.heap) (ks := kvs.map (·.1)) (vs := acc.toList) (by simp [X6]) fun i v e => by
   obtain ⟨k, x, e1, e2⟩ := Ts.2 i v (by simpa using e)
   obtain ⟨t, rfl⟩ := nu e2
   exact ⟨k, t, by simp [e1], rfl⟩
  rw [hk, nv] at this
  exact this
 have hD : s.heap.get? h'.objs.size = none := by
  cases e : s.heap.get? h'.objs.size with
  | none => rfl
  | some o => exact absurd (dT (keep _ _ e)) (eR _)
 have Uu : (h'.push (cC "list" acc.toList.toArray 0)).get? h'.objs.size = some (cC "list" acc.toList.toArray 0) := cz _ rfl
 show af _ _ _ _ _ { s with heap := h'.push (cC "list" acc.toList.toArray 0), toks := t }
 refine ah (dS (cZ (vZ .num (A := A) (t := t) rm S (fun y hy => ?_) (by simpa using h4) hv (fun b o e => br _ (keep b o e)) hD Uu h) (fun u' s' hq => ?_) fun u' u' x => x))
 ·obtain ⟨p, _, rfl⟩ := bg.mp hy
  rfl
 ·exact av ⟨_, rfl, hq⟩
end
end
section
section
variable {prog : aG} {w : aE} {cls : aZ} {RY : ao} {A : bm} {s : ae} {σ : Tk} {H H' : AH} {E : aa -> ae -> Prop}
theorem DU {l : List V} (h : sortable l = true) : (∃ d : Kd, ∀ y ∈ l, d.ok y = true) /\ l.length < 5 := by
 obtain ⟨h, h5⟩ := cS h
 refine ⟨?_, of_decide_eq_true h5⟩
 rcases oE.mp h with h | h
 ·rcases oE.mp h with h | h
  ·exact ⟨.num, fun y hy => bJ.mp h y hy⟩
  ·exact ⟨.lit, fun y hy => bJ.mp h y hy⟩
 ·exact ⟨.rank, fun y hy => bJ.mp h y hy⟩
theorem La {vs : List V} {R8 : List aa} {z : V} (rm : aR A 0) (S : aq prog w cls RY σ H s.heap) (r : an σ s.heap vs R8) (e : dq H .sorted vs = some (z, H')) :
  ct prog w cls RY A (call (.builtin "sorted") R8) σ s z H' :=
 nI e fun v e1 e => by
  obtain ⟨u, e2, r1⟩ := an.one e1 r
  rw [e2]
  have UV : ∀ {l : List V}, bK H v = some l -> (if sortable l then some (V.lst (cq l), H) else none) = some (z, H') -> ct prog w cls RY A (call (.builtin "sorted") [u]) σ s z H' := fun {l} e1 e => bT e fun hs e => fQ e fun ez eH => by
   obtain ⟨a, us, eu, hl, ln, rr⟩ := jT S r1 e1
   obtain ⟨⟨d, ok⟩, h4⟩ := DU hs
   rw [<-ez, <-eH, eu]
   exact JR d rm S (vs := us.toList) (by simpa using hl) ok h4 rr
  cases v with
  | ref i =>
   refine wx e (fun l ho e => UV (by show eB (ag H i) = _; rw [ho]; rfl) e) fun l ho e => bT e fun hs e => fQ e fun ez eH => ?_
   obtain ⟨a, ha, eu⟩ := r1
   obtain ⟨kvs, hm, ZX, ln, q⟩ := S.objs i a _ ha ho
   rw [<-ez, <-eH, eu]
   exact Fx rm S ZX hm q (of_decide_eq_true hs)
  | lst l => exact UV rfl e
  | _ => exact aD e
end
end
section
theorem HU : uo = true := by decide +kernel
end
section
noncomputable def wP (p : Nat × Nat) : Nat × Nat := ((p.1 * 5 + 1 + p.2 / 32) % 8, p.2 / 32)
noncomputable def eX (b : Nat) : Nat -> Nat × Nat
 | 0 => (b % 8, b)
 | k + 1 => wP (eX b k)
theorem v9 {b : Nat}  : eX b 0 = ((b % 8, b)) := rfl
theorem uN {b : Nat} {k} : eX b (k + 1) = (wP (eX b k)) := rfl
theorem Eh (b : Nat) : ∀ k, (eX b k).2 = b / 32 ^ k := by
 intro k
 induction k with
 | zero =>
  simp [v9, uN]
 | succ k iH =>
  show (eX b k).2 / 32 = _
  rw [iH, Nat.div_div_eq_div_mul, Nat.pow_succ]
theorem By (b : Nat) : ∀ k, (eX b k).1 < 8
 | 0 => to _ (by decide)
 | _ + 1 => to _ (by decide)
theorem DZ {b : Nat} (hb : b < 2 ^ 64) {k : Nat} (hk : 13 <= k) : (eX b k).2 = 0 := by
 rw [Eh]
 refine Nat.div_eq_of_lt (cH hb (cY ?_ (Nat.pow_le_pow_right (by decide) hk)))
 decide
noncomputable def cyc (i : Nat) : Nat := (i * 5 + 1) % 8
noncomputable def uw (i : Nat) : Nat -> Nat
 | 0 => i
 | k + 1 => cyc (uw i k)
theorem JQ {b : Nat} (hb : b < 2 ^ 64) : ∀ m, (eX b (13 + m)).1 = uw (eX b 13).1 m := by
 intro m
 induction m with
 | zero =>
  exact rfl
 | succ m iH =>
  show ((eX b (13 + m)).1 * 5 + 1 + (eX b (13 + m)).2 / 32) % 8 = cyc _
  rw [DZ hb (by trivial), iH]; rfl
theorem HG : ∀ i, i < 8 -> ∀ j, j < 8 -> ∃ m, m < 8 /\ uw i m = j := by decide
theorem FF {b : Nat} (hb : b < 2 ^ 64) {j : Nat} (hj : j < 8) : ∃ k, k < 21 /\ (eX b k).1 = j := by
 obtain ⟨m, hm, e⟩ := HG _ (By b 13) j hj
 exact ⟨13 + m, by trivial, by rw [JQ hb, e]⟩
theorem HX (h : Int) : qY h < 2 ^ 64 := by
 unfold qY
 have h1 : 0 <= h % (2 ^ 64 : Int) := Int.emod_nonneg _ (by decide)
 have h2 : h % (2 ^ 64 : Int) < 2 ^ 64 := Int.emod_lt_of_pos _ (by decide)
 trivial
noncomputable def bC (h : Int) (k : Nat) : QU := { j := (eX (qY h) k).1, more := 0, i := (eX (qY h) k).1, perturb := (eX (qY h) k).2, dummy := none }
theorem Jr {t : bn} (hm : t.mask = 7) (h : Int) : t.probeStart h = bC h 0 := by
 unfold SetTable.probeStart bC QV
 rw [hm]
 simp [v9, uN]
theorem A5 {t : bn} (hm : t.mask = 7) (h : Int) (k : Nat) : t.advance (bC h k) = bC h (k + 1) := by
 unfold SetTable.advance SetTable.leap QV
 rw [hm]
 simp [bC, v9, uN, wP]
theorem PD {t : bn} (hd : t.dummies = #[]) {j : Nat} (hj : j ∉ t.place.toList) : t.slot j = .empty := by
 unfold Dj
 have h1 : (t.place[eL t.place j]? == some j) = false := by
  cases e : t.place[eL t.place j]? with
  | none => rfl
  | some x =>
   have : x ≠ j := fun q => hj (by subst q; exact QW.mpr (Array.mem_of_getElem? e))
   simp [this]
 simp only [h1, cu, if_false]
 rw [hd]
 simp [xL]
theorem H0 : ∀ {a b : List Nat}, a.Nodup -> (∀ x ∈ a, x ∈ b) -> a.length <= b.length := by
 intro a
 induction a with
 | nil =>
  intro _ _ _
  exact dZ _
 | cons x a iH =>
  intro b hn h
  obtain ⟨h1, h2⟩ := dh.mp hn
  have hx := h x aL
  have := iH (b := b.erase x) h2 fun y hy => (List.mem_erase_of_ne (fun q : y = x => h1 (by rw [<-q]; exact hy))).mpr (h y (aQ _ hy))
  rw [List.length_erase_of_mem hx] at this
  have : 0 < b.length := List.length_pos_of_mem hx
  simp only [iT]; trivial
set_option tactic.hygienic true in
theorem Mc {l : List Nat} (h : l.length < 8) : ∃ j, j < 8 /\ j ∉ l := by
 false_or_by_contra
 rename_i q
 have all : ∀ j ∈ bQ 8, j ∈ l := fun j hj => by
  false_or_by_contra
  rename_i n
  exact q ⟨j, nh.mp hj, n⟩
 have := H0 List.nodup_range all
 simp at this; trivial
theorem FT {t : bn} (hd : t.dummies = #[]) (hs : t.place.size < 8) (h : Int) : ∃ k, k < 21 /\ t.slot (bC h k).j = .empty := by
 obtain ⟨j, hj, hn⟩ := Mc (l := t.place.toList) (by simpa using hs)
 obtain ⟨k, hk, e⟩ := FF (HX h) hj
 refine ⟨k, hk, PD hd ?_⟩
 show (eX (qY h) k).1 ∉ _
 rw [e]; exact hn
theorem uq {t : bn} (hd : t.dummies = #[]) (j : Nat) : t.slot j = .empty \/ ∃ i, t.slot j = .live i /\ t.place[i]? = some j := by
 unfold Dj
 by_cases e : (t.place[eL t.place j]? == some j) = true
 ·refine .inr ⟨eL t.place j, ?_, beq_iff_eq.mp e⟩
  simp only [e, if_true]
 ·refine .inl ?_
  simp only [e, hd]
  simp [xL]
def Betw (t : bn) (dG : Nat -> Int) (h : Int) (k k' : Nat) : Prop := ∀ m, k <= m -> m < k' -> ∃ i, t.slot (bC h m).j = .live i /\ dG i ≠ h
theorem Betw.none {t : bn} {dG : Nat -> Int} {h : Int} {k : Nat} : Betw t dG h k k := fun u' h1 h2 => absurd h2 (qL.mpr h1)
theorem Betw.more {t : bn} {dG : Nat -> Int} {h : Int} {k k' i : Nat} (q : t.slot (bC h k).j = .live i) (c : dG i ≠ h) (B : Betw t dG h (k + 1) k') : Betw t dG h k k' := fun m h1 h2 => by
 rcases QX h1 with e1 | e1
 ·rw [<-e1]; exact ⟨i, q, c⟩
 ·exact B m e1 h2
inductive qc (t : bn) (dG : Nat -> Int) (h : Int) (e k : Nat) (r : Option QY) : Prop
 | free (k' : Nat) (q : t.slot (bC h k').j = .empty) (c : r = some (.empty (bC h k').j none)) (B : Betw t dG h k k')
 | hit (k' i : Nat) (a : k <= k') (b : k' < e) (q : t.slot (bC h k').j = .live i) (c : r = some (.candidate (bC h k').j i (bC h (k' + 1)))) (B : Betw t dG h k k')
theorem qc.more {t : bn} {dG : Nat -> Int} {h : Int} {e k i : Nat} {r : Option QY} (q : t.slot (bC h k).j = .live i) (c : dG i ≠ h) (l : qc t dG h e (k + 1) r) : qc t dG h e k r := by
 cases l with
 | free k' q' c' B => exact .free k' q' c' (B.more q c)
 | hit k' i' a b q' c' B => exact .hit k' i' (tM a) b q' c' (B.more q c)
theorem Jl {t : bn} (hm : t.mask = 7) (hd : t.dummies = #[]) (dG : Nat -> Int) (h : Int) {e : Nat} (he : t.slot (bC h e).j = .empty) (f : Nat) : ∀ (k : Nat), k <= e -> e < k + f -> qc t dG h e k (Dk t dG h f (bC h k)) := by
 induction f with
 | zero => exact fun k h1 h2 => absurd h2 (qL.mpr h1)
 | succ f ih =>
  intro k Vk hf
  rw [Dk]
  rcases uq hd (bC h k).j with q | ⟨i, q, _⟩
  ·rw [q]; exact .free k q rfl .none
  ·have SV : k < e := Cv Vk fun z => by rw [z, he] at q; cases q
   rw [q]
   by_cases c : dG i = h
   ·refine .hit k i (bq _) SV q ?_ .none
    simp only [c, beq_self_eq_true, if_true, A5 hm]
   ·simp only [beq_iff_eq, c, if_false, A5 hm]
    exact (ih (k + 1) SV (by rw [CC]; exact hf)).more q c
end
section
noncomputable def i6 : Sum Int ac -> aa -> Bool
 | .inl i, v => t8 i v
 | .inr x, v => Dl x v
set_option tactic.hygienic true in
noncomputable def lV (prog : aG) (w : aE) : PySem.KeyKind prog w (Sum Int ac) where
 is := i6
 hash := fun k => match k with
  | .inl i => hashInt i
  | .inr x => hashStr w x
 inj := fun v a b ha hb => by
  cases a <;> cases b <;> simp only [i6] at ha hb
  ·rw [Value.isInt_inj _ _ _ ha hb]
  ·obtain ⟨t, rfl⟩ := nu ha; simp [Dl] at hb
  ·obtain ⟨t, rfl⟩ := oW ha; simp [t8] at hb
  ·rw [Value.isStrOf_inj _ _ _ ha hb]
 byValue := fun k v h => by
  cases k <;> simp only [i6] at h
  ·obtain ⟨t, rfl⟩ := nu h; rfl
  ·obtain ⟨t, rfl⟩ := oW h; rfl
 pyHash := fun {A E s k v Q} hv h => by
  cases k <;> simp only [i6] at hv
  ·obtain ⟨t, rfl⟩ := nu hv; exact wpAny_pyHash_int h
  ·obtain ⟨t, rfl⟩ := oW hv; exact wpAny_pyHash_str h
 eqBool := fun {A E s a b u v Q} hu hv h => by
  cases a <;> cases b <;> simp only [i6] at hu hv
  ·obtain ⟨t, rfl⟩ := nu hu
   obtain ⟨t', rfl⟩ := nu hv
   refine qV ?_
   rename_i i j
   have : decide (Sum.inl i = (Sum.inl j : Sum Int ac)) = (i == j) := by
    by_cases e : i = j <;> simp [e]
   rw [<-this]; exact h
  ·obtain ⟨t, rfl⟩ := nu hu
   obtain ⟨t', rfl⟩ := oW hv
   exact SeqAt.EqAt.int_str _ _ _ _ _ _ _ _ (by simpa using h)
  ·obtain ⟨t, rfl⟩ := oW hu
   obtain ⟨t', rfl⟩ := nu hv
   exact SeqAt.EqAt.str_int _ _ _ _ _ _ _ _ (by simpa using h)
  ·obtain ⟨t, rfl⟩ := oW hu
   obtain ⟨t', rfl⟩ := oW hv
   refine C8 ?_
   rename_i i j
   have : decide (Sum.inr i = (Sum.inr j : Sum Int ac)) = decide (i = j) := by
    by_cases e : i = j <;> simp [e]
   rw [<-this]; exact h
 «strs» := fun k x t v h => by
  cases k <;> simp only [i6] at h
  ·simp [t8] at h
  ·simp only [i6]
   have := (PySem.strKind prog w).«strs» _ x t v h
   exact this
noncomputable def nS (x : Int) (y : ac) (k : Int) : List (Sum Int ac) := [.inl x, .inr y, .inl k]
theorem Af {prog : aG} {w : aE} {h : ao} {a : ak} {o : de} {x k : Int} {y : ac} {n : Nat} {t1 t2 t3 : Tok} (ho : h.get? a = some o) (hc : o.cls = .type "tuple") (hd : o.data = .seq #[.int x t1, .str y t2, .int k t3] n) :
  Dm (lV prog w) h (nS x y k) a :=
 ⟨o, _, n, ho, hc, hd, .cons (by simp [lV, i6, t8]) (.cons (by simp [lV, i6, Dl]) (.cons (by simp [lV, i6, t8]) .nil))⟩
end
section
section
variable {prog : aG} {w : aE} {A : bm} {E : aa -> ae -> Prop} {s : ae}
def iO (h : ao) (v : V) (u : aa) : Prop := ∃ x y k a o n t1 t2 t3, v = .tup [.int x, .str y, .int k] /\ u = .ref a /\ h.get? a = some o /\ o.cls = .type "tuple" /\ o.data = .seq #[.int x t1, .str y t2, .int k t3] n
theorem rP {a : ak} {o : de} {xs : Array aa} {n : Nat} {Q : Option (Array aa) -> ae -> Prop} (ho : s.heap.get? a = some o) (hd : o.data = .seq xs n) (h : Q (some xs) s) : af (am prog w) A (t9 (.ref a)) Q E s := by
 unfold t9
 refine ah (xo ho ?_)
 rw [hd]; exact av h
theorem Jw {v : V} {u : aa} {Q : Bool -> ae -> Prop} (hl : iO s.heap v u) (h : Q false s) : af (am prog w) A (qZ 8 u) Q E s := by
 obtain ⟨x, y, k, a, o, n, t1, t2, t3, rfl, rfl, ho, hc, hd⟩ := hl
 have hT : s.TypeIs (.ref a) "tuple" := ⟨o, ho, hc⟩
 unfold qZ
 refine ah (Di hT PySem.F.slot_tuple_hash.lookup ?_)
 show af _ _ (t9 (.ref a) >>= _) _ _ _
 refine ah (rP ho hd ?_)
 show af _ _ (forIn #[Value.int x t1, .str y t2, .int k t3] _ _ >>= _) _ _ _
 rw [<-QZ]
 show af _ _ (forIn [Value.int x t1, .str y t2, .int k t3] _ _ >>= _) _ _ _
 rw [js]
 refine ah (ah (ah ?_))
 rw [show qZ 7 (.int x t1) = pure true from by unfold qZ; rfl]
 refine av ?_
 simp only [gf, cu, if_false]
 refine av ?_
 dsimp only
 rw [js]
 refine ah (ah ?_)
 rw [show qZ 7 (.str y t2) = pure false from by unfold qZ; rfl]
 refine av ?_
 simp only [jt, if_true]
 exact av (av (av h))
end
end
section
section
variable {prog : aG} {w : aE} {A : bm} {E : aa -> ae -> Prop} {s : ae}
theorem BL {v : V} {u : aa} {Q : Bool -> ae -> Prop} (hl : iO s.heap v u) (h : Q false s) : af (am prog w) A (q8 8 u) Q E s := by
 obtain ⟨x, y, k, a, o, n, t1, t2, t3, rfl, rfl, ho, hc, hd⟩ := hl
 have hT : s.TypeIs (.ref a) "tuple" := ⟨o, ho, hc⟩
 have b1 : ∀ z t, q8 7 (.int z t) = pure false := fun z t => by unfold q8; rfl
 have b2 : ∀ z t, q8 7 (.str z t) = pure false := fun z t => by unfold q8; rfl
 unfold q8
 refine ah (tZ hT ?_)
 dsimp only
 rw [if_pos (by decide)]
 refine ah (av ?_)
 simp only [gf, cu, if_false]
 refine ah (rP ho hd ?_)
 dsimp only
 refine ah ?_
 rw [<-QZ]
 show af _ _ (forIn [Value.int x t1, .str y t2, .int k t3] _ _) _ _ _
 rw [js]
 refine ah (ah ?_)
 rw [b1]
 refine av ?_
 simp only [cu, if_false]
 refine av ?_
 dsimp only
 rw [js]
 refine ah (ah ?_)
 rw [b2]
 refine av ?_
 simp only [cu, if_false]
 refine av ?_
 dsimp only
 rw [js]
 refine ah (ah ?_)
 rw [b1]
 refine av ?_
 simp only [cu, if_false]
 refine av ?_
 dsimp only
 rw [tN]
 exact av (av h)
theorem OS {v : V} {u : aa} {h : ao} (hl : iO h v u) : ∃ x y k a, v = .tup [.int x, .str y, .int k] /\ u = .ref a /\ Dm (lV prog w) h (nS x y k) a := by
 obtain ⟨x, y, k, a, o, n, t1, t2, t3, rfl, rfl, ho, hc, hd⟩ := hl
 exact ⟨x, y, k, a, rfl, rfl, Af ho hc hd⟩
theorem BD {v : V} {u : aa} {Q : Bool -> ae -> Prop} (hl : iO s.heap v u) (h : Q true s) : af (am prog w) A (eqIsQuiet 8 u) Q E s := by
 obtain ⟨x, y, k, a, rfl, rfl, hk⟩ := OS (prog := prog) (w := w) hl
 exact wpAny_eqIsQuiet_tuple hk h
theorem JH {v : V} {u : aa} {Q : Bool -> ae -> Prop} (hl : iO s.heap v u) : ∀ {us : List aa}, (∀ z ∈ us, ∃ v', iO s.heap v' z) -> Q false s -> af (am prog w) A (Dn u us) Q E s := by
 intro us V8 h
 unfold Dn
 refine ah ?_
 induction us with
 | nil => rw [tN]; exact av (av h)
 | cons z us ih =>
  obtain ⟨v', hz⟩ := V8 z aL
  rw [js]
  refine ah ?_
  refine ua (fun u' => ?_) (fun u' => ?_)
  ·exact av (ih fun z hz => V8 z (aQ _ hz))
  ·refine ah (BD hl ?_)
   simp only [gf, cu, if_false]
   refine ah (BD hz ?_)
   simp only [gf, cu, if_false]
   refine ah (BL hl ?_)
   simp only [cu, if_false]
   refine ah (BL hz ?_)
   simp only [cu, if_false]
   exact av (ih fun z hz => V8 z (aQ _ hz))
end
end
section
def d5 (Zk : aG) (_w : aE) (h : ao) (key : List (Sum Int ac)) (u : aa) : Prop :=
 ∃ x y k, key = nS x y k /\ iO h (.tup [.int x, .str y, .int k]) u
theorem d5.key {prog : aG} {w : aE} {h : ao} {key : List (Sum Int ac)} {u : aa} (l : d5 prog w h key u) : ∃ a, u = .ref a /\ Dm (lV prog w) h key a := by
 obtain ⟨x, y, k, rfl, x', y', k', a, o, n, t1, t2, t3, e, rfl, ho, hc, hd⟩ := l
 simp only [V.tup.injEq, Do, V.int.injEq, V.str.injEq, and_true] at e
 obtain ⟨rfl, rfl, rfl⟩ := e
 exact ⟨a, rfl, Af ho hc hd⟩
noncomputable def hk (prog : aG) (w : aE) (key : List (Sum Int ac)) : Int := tupleKeyHash (lV prog w) key
noncomputable def i9 : List (List Nat) := ((bQ 8).foldr (fun x acc => acc ++ acc.map (x :: ·)) [[]]).filter (·.length <= 4)
theorem Il : i9.all (fun l => (bQ 5).all fun i => match l[i]? with
 | some j => eL l.toArray j == i
 | none => true) = true := by decide +kernel
theorem ET : i9.all (fun l => decide (4 <= l.length) || (bQ 8).all fun j => l.contains j || (decide (eL l.toArray j <= l.length) && i9.contains (l.take (eL l.toArray j) ++ j :: l.drop (eL l.toArray j)))) = true := by decide +kernel
theorem Ok : i9.all (fun l => decide (l.length <= 4)) = true := by decide +kernel
structure bj (prog : aG) (w : aE) (h : ao) (S : ak) (es : Array (Int × aa)) (ep : Nat) (t : bn) (keys : List (List (Sum Int ac))) : Prop where
 obj : ∃ o, h.get? S = some o /\ o.ExactSet /\ o.data = .set es ep t
 fits : t.fits es.size = true
 mask : t.mask = 7
 dum : t.dummies = #[]
 few : es.size < 5
 ents : ∀ (i : Nat) (e : Int × aa), es[i]? = some e -> ∃ key, keys[i]? = some key /\ d5 prog w h key e.2 /\ e.1 = hk prog w key
 walk : ∀ (i j : Nat) (key : List (Sum Int ac)), keys[i]? = some key -> t.place[i]? = some j -> ∃ k, (bC (hk prog w key) k).j = j /\ ∀ k', k' < k -> t.slot (bC (hk prog w key) k').j ≠ .empty
 len : keys.length = es.size
 rise : t.place.toList ∈ i9
theorem slot_of {t : bn} (h : t.place.toList ∈ i9) {i j : Nat} (hj : t.place[i]? = some j) : t.slot j = .live i := by
 have h1 := bJ.mp Il _ h
 have hl := bJ.mp Ok _ h
 have hi := (Q0.mp hj).1
 simp only [decide_eq_true_eq, mS] at hl
 have h2 := bJ.mp h1 i (nh.mpr (by trivial))
 rw [fy, hj] at h2
 have h3 : eL t.place j = i := by simpa using h2
 unfold Dj
 simp only [h3, hj, beq_self_eq_true, if_true]
theorem bj.live {prog : aG} {w : aE} {h : ao} {S : ak} {es : Array (Int × aa)} {ep : Nat} {t : bn} {keys : List (List (Sum Int ac))} (L : bj prog w h S es ep t keys) : ∀ (i j : Nat), t.place[i]? = some j -> t.slot j = .live i := fun u' u' h => slot_of L.rise h
end
section
section
variable {prog : aG} {w : aE} {A : bm} {E : aa -> ae -> Prop} {s : ae}
theorem bj.state {S : ak} {es : Array (Int × aa)} {ep : Nat} {t : bn} {keys : List (List (Sum Int ac))} (L : bj prog w s.heap S es ep t keys) {Q : (Array (Int × aa) × Nat × bn) -> ae -> Prop} (h : Q (es, ep, t) s) :
  af (am prog w) A (setState S) Q E s := by
 obtain ⟨o, ho, _, hd⟩ := L.obj
 exact Q1 ho hd L.fits h
theorem bj.size {h : ao} {S : ak} {es : Array (Int × aa)} {ep : Nat} {t : bn} {keys : List (List (Sum Int ac))} (L : bj prog w h S es ep t keys) : t.place.size = es.size := by
 have := L.fits
 unfold Dp at this
 simp only [eU, beq_iff_eq] at this
 exact this.1
theorem bj.entry {h : ao} {S : ak} {es : Array (Int × aa)} {ep : Nat} {t : bn} {keys : List (List (Sum Int ac))} (L : bj prog w h S es ep t keys) {i : Nat} {key : List (Sum Int ac)} (hi : keys[i]? = some key) : ∃ e, es[i]? = some e := by
 have := (bG.mp hi).1
 rw [L.len] at this
 exact ⟨_, lG this⟩
theorem bj.entryP {h : ao} {S : ak} {es : Array (Int × aa)} {ep : Nat} {t : bn} {keys : List (List (Sum Int ac))} (L : bj prog w h S es ep t keys) {i j : Nat} (hi : t.place[i]? = some j) : ∃ e, es[i]? = some e := by
 have := (Q0.mp hi).1
 rw [L.size] at this
 exact ⟨_, lG this⟩
theorem bj.placed {h : ao} {S : ak} {es : Array (Int × aa)} {ep : Nat} {t : bn} {keys : List (List (Sum Int ac))} (L : bj prog w h S es ep t keys) {i : Nat} {key : List (Sum Int ac)} (hi : keys[i]? = some key) : ∃ j, t.place[i]? = some j := by
 have := (bG.mp hi).1
 rw [L.len, <-L.size] at this
 exact ⟨_, lG this⟩
def iz (t : bn) (keys : List (List (Sum Int ac))) (key : List (Sum Int ac)) (h : Int) (k : Nat) : Prop := ∀ m, m < k -> ∃ i, t.slot (bC h m).j = .live i /\ keys[i]? ≠ some key
section
variable {S : ak} {es : Array (Int × aa)} {ep : Nat} {t : bn} {keys : List (List (Sum Int ac))} {key : List (Sum Int ac)} {h : Int} {H : ao}
theorem iz.none : iz t keys key h 0 := fun m hm => absurd hm (CV m)
theorem iz.busy {k : Nat} (G : iz t keys key h k) : ∀ m, m < k -> t.slot (bC h m).j ≠ .empty := fun m hm => by
 obtain ⟨i, q, _⟩ := G m hm
 rw [q]; exact Dq
theorem iz.next {k i : Nat} (G : iz t keys key h k) (q : t.slot (bC h k).j = .live i) (c : keys[i]? ≠ some key) : iz t keys key h (k + 1) := fun m hm => by
 rcases QX (tm hm) with z | z
 ·rw [z]; exact ⟨i, q, c⟩
 ·exact G m z
theorem bj.keyed (L : bj prog w H S es ep t keys) {i : Nat} (c : (es[i]?.map (·.1)).getD 0 ≠ hk prog w key) : keys[i]? ≠ some key := fun hi => by
 obtain ⟨e, he⟩ := L.entry hi
 obtain ⟨Sz, k1, _, k3⟩ := L.ents i e he
 rw [he] at c
 exact c (k3.trans (congrArg (hk prog w) (aC (k1.symm.trans hi))))
theorem bj.gone (L : bj prog w H S es ep t keys) {k k' : Nat} (G : iz t keys key (hk prog w key) k) (B : Betw t (fun i => (es[i]?.map (·.1)).getD 0) (hk prog w key) k k') : iz t keys key (hk prog w key) k' := fun m hm => by
 rcases Nat.lt_or_ge m k with z | z
 ·exact G m z
 ·obtain ⟨i, q, c⟩ := B m z hm
  exact ⟨i, q, L.keyed c⟩
theorem bj.absent (L : bj prog w H S es ep t keys) {k : Nat} (G : iz t keys key (hk prog w key) k) (q : t.slot (bC (hk prog w key) k).j = .empty) : key ∉ keys := fun hm => by
 obtain ⟨i, hi⟩ := ju.mp hm
 obtain ⟨j, hj⟩ := L.placed hi
 obtain ⟨k', w1, w2⟩ := L.walk i j key hi hj
 have w4 := L.live i j hj
 rw [<-w1] at w4
 rcases Nat.lt_trichotomy k' k with z | z | z
 ·obtain ⟨i', q', c⟩ := G k' z
  rw [w4] at q'
  exact c (Q2 q' ▸ hi)
 ·rw [z, q] at w4; exact Dq w4
 ·exact w2 k z q
inductive A3 (prog : aG) (w : aE) (H : ao) (es : Array (Int × aa)) (keys : List (List (Sum Int ac))) (i : Nat) : Prop
 | mk (e : Int × aa) (Sz : List (Sum Int ac)) (he : es[i]? = some e) (hi : keys[i]? = some Sz) (X : d5 prog w H Sz e.2)
theorem bj.there (L : bj prog w H S es ep t keys) {j i : Nat} (q : t.slot j = .live i) : A3 prog w H es keys i := by
 have hj : ∃ j, t.place[i]? = some j := by
  rcases uq L.dum j with z | ⟨i', z, r⟩
  ·rw [q] at z; exact Dq z
  ·rw [q] at z; exact ⟨_, Q2 z ▸ r⟩
 obtain ⟨j, hj⟩ := hj
 obtain ⟨e, he⟩ := L.entryP hj
 obtain ⟨Sz, k1, k2, _⟩ := L.ents i e he
 exact ⟨e, Sz, he, k1, k2⟩
theorem bj.lits (L : bj prog w H S es ep t keys) (p : Int × aa -> Bool) : ∀ z ∈ ((es.filter p).toList.map (·.2)), ∃ v, iO H v z := fun z hz => by
 obtain ⟨q, hq, e⟩ := bg.mp hz
 obtain ⟨i, hi⟩ := Array.mem_iff_getElem?.mp (Array.mem_filter.mp (QW.mp hq)).1
 obtain ⟨_, _, ⟨x, y, k, _, l⟩, _⟩ := L.ents i q hi
 rw [<-e]; exact ⟨_, l⟩
end
theorem Ii {key Sz : List (Sum Int ac)} {u y : aa} (hu : A.units < dR) (X' : d5 prog w s.heap Sz y) (X : d5 prog w s.heap key u) {Q : Bool -> ae -> Prop} (h : Q (decide (Sz = key)) s) : af (am prog w) A (iR [y] (eqBool y u)) Q E s := by
 obtain ⟨a, ea, ka⟩ := X.key
 obtain ⟨b, eb, kb⟩ := X'.key
 rw [ea, eb]
 exact dS (wpAny_eqBool_tuple hu kb ka h)
theorem I5 {key : List (Sum Int ac)} {y : aa} (X : d5 prog w s.heap key y) {Q : Bool -> ae -> Prop} (h : Q true s) : af (am prog w) A (isSame y y) Q E s := by
 obtain ⟨a, ea, _⟩ := X.key
 rw [ea]
 exact wpAny_isSame_ref_self h
theorem HN {key : List (Sum Int ac)} {u : aa} (X : d5 prog w s.heap key u) {us : List aa} (V8 : ∀ z ∈ us, ∃ v', iO s.heap v' z) {Q : Bool -> ae -> Prop} (h : Q false s) : af (am prog w) A (Dn u us) Q E s := by
 obtain ⟨_, _, _, _, lo⟩ := X
 exact JH lo V8 h
theorem E1 {α : Type} {c : Prop} [Decidable c] {x : d8 Bool} {bad J : d8 α} {Q : α -> ae -> Prop} (hx : ∀ {R : Bool -> ae -> Prop}, R false s -> af (am prog w) A x R E s) (hJ : af (am prog w) A J Q E s) :
  af (am prog w) A (if c then (x >>= fun b => if b = true then bad else J) else J) Q E s :=
 ua (fun u' => ah (hx (by rw [if_neg Q3]; exact hJ))) (fun u' => hJ)
theorem bj.search {S : ak} {es : Array (Int × aa)} {ep : Nat} {t : bn} {keys : List (List (Sum Int ac))} {key : List (Sum Int ac)} {u : aa} (L : bj prog w s.heap S es ep t keys) (X : d5 prog w s.heap key u) (hu : A.units < dR) {e : Nat} (he : t.slot (bC (hk prog w key) e).j = .empty) (h21 : e < 21) {Q : SetFound -> ae -> Prop} (Vw : key ∈ keys -> Q (.there none) s)
  (no : ∀ k, t.slot (bC (hk prog w key) k).j = .empty -> (∀ k', k' < k -> t.slot (bC (hk prog w key) k').j ≠ .empty) -> key ∉ keys -> Q (.free (bC (hk prog w key) k).j false) s) (f : Nat) :
  ∀ (k : Nat) (st : Option QU), k <= e -> e < k + f -> st.getD (t.probeStart (hk prog w key)) = bC (hk prog w key) k -> iz t keys key (hk prog w key) k -> af (am prog w) A (setSearchFrom S u (hk prog w key) true f st) Q E s := by
 induction f with
 | zero => exact fun k u' h1 h2 => absurd h2 (qL.mpr h1)
 | succ f ih =>
  intro k st Vk hf Sr G
  have hp : ∀ dG : Nat -> Int, t.probe dG (hk prog w key) (bC (hk prog w key) k) = Dk t dG (hk prog w key) 220 (bC (hk prog w key) k) := fun u' => by
   unfold SetTable.probe SetTable.turns
   rw [L.mask]
  have hg : ¬ t.gaveWay = true := by rw [SetTable.gaveWay, L.mask]; decide
  obtain ⟨r, hr, l⟩ : ∃ r, (∀ dG, dG = (fun i => (es[i]?.map (·.1)).getD 0) -> t.probe dG (hk prog w key) (bC (hk prog w key) k) = r) /\ qc t (fun i => (es[i]?.map (·.1)).getD 0) (hk prog w key) e k r :=
   ⟨_, fun h' z => by rw [z, hp], Jl L.mask L.dum _ (hk prog w key) he 220 k Vk (by trivial)⟩
  show af (am prog w) A (setState S >>= fun u' => _) Q E s
  refine ah (L.state ?_)
  refine (congrArg (fun z : d8 SetFound => af (am prog w) A z Q E s) (if_neg hg)).mpr ?_
  rw [Sr, hr]
  rotate_left
  ·rfl
  cases l with
  | free k' q c B =>
   rw [c]
   exact av (no k' q (L.gone G B).busy (L.absent (L.gone G B) q))
  | hit k' i h1 h2 q c B =>
   rw [c]
   refine E1 (fun r => HN X (L.lits _) r) ?_
   refine A3.casesOn (L.there q) fun e' Sz Y0 YV X' => ?_
   rw [Y0]
   refine ah (Ii hu X' X ?_)
   refine ah (L.state ?_)
   refine ua (fun z => av (Vw ((of_decide_eq_true z : Sz = key) ▸ aT YV))) fun z => ?_
   rw [show t.sameMemory t.moves t.mask = some true by unfold SetTable.sameMemory; simp]
   dsimp only
   rw [if_pos rfl, q]
   dsimp only
   rw [Y0]
   refine ah (I5 X' ?_)
   refine ah (av ?_)
   exact ua (fun y => absurd y z) fun u' => ih (k' + 1) _ h2 (by trivial) rfl ((L.gone G B).next q fun y => z (decide_eq_true (aC (YV.symm.trans y))))
end
end
section
noncomputable def gR {α : Type} (l : List α) (p : Nat) (x : α) : List α := l.take p ++ x :: l.drop p
theorem wc {α : Type} {l : List α} {p : Nat} (x : α) (hp : p <= l.length) (i : Nat) : (gR l p x)[i]? = if i < p then l[i]? else if i = p then some x else l[i - 1]? := by
 unfold gR
 rw [List.getElem?_append, qP, oC hp]
 by_cases h : i < p
 ·rw [if_pos h, if_pos h, List.getElem?_take_of_lt h]
 ·rw [if_neg h, if_neg h]
  by_cases e : i = p
  ·subst e; simp
  ·rw [if_neg e]
   obtain ⟨k, hk⟩ : ∃ k, i - p = k + 1 := ⟨i - p - 1, by trivial⟩
   rw [hk, fC, Dr]
   congr 1; trivial
theorem B3 {α : Type} (l : List α) (p : Nat) (x : α) : (gR l p x).length = l.length + 1 := by
 unfold gR; simp; trivial
theorem yh {α : Type} {l : List α} {p : Nat} {x z : α} : z ∈ gR l p x ↔ z = x \/ z ∈ l := by
 unfold gR
 rw [aW, aP]
 conv => rhs; rw [<-ub p l, aW]
 constructor
 ·rintro (h | h | h) <;> simp [h]
 ·rintro (h | h | h) <;> simp [h]
theorem FE {α : Type} (l : List α) (p : Nat) (x : α) : (gR l p x).Perm (x :: l) := by
 unfold gR
 have := List.perm_middle (a := x) (l₁ := l.take p) (l₂ := l.drop p)
 rwa [ub] at this
theorem qs {α : Type} (xs : Array α) (p : Nat) (x : α) : (gj xs p x).toList = gR xs.toList p x := by
 unfold gj gR
 simp [Array.toList_extract]
 exact tH (by simp)
theorem As {α : Type} {xs : Array α} {p : Nat} (x : α) (hp : p <= xs.size) (i : Nat) : (gj xs p x)[i]? = if i < p then xs[i]? else if i = p then some x else xs[i - 1]? := by
 rw [<-fy, qs, wc x (by simpa using hp)]
 simp
theorem qD {α : Type} (xs : Array α) (p : Nat) (x : α) : (gj xs p x).size = xs.size + 1 := by
 rw [<-mS, qs, B3, mS]
theorem Ei {l : List Nat} (h : l ∈ i9) (h4 : l.length < 4) {j : Nat} (hj : j < 8) (hn : j ∉ l) : eL l.toArray j <= l.length /\ gR l (eL l.toArray j) j ∈ i9 := by
 have h1 := bJ.mp ET _ h
 have n4 : ¬ 4 <= l.length := by trivial
 simp only [n4, decide_false, CU] at h1
 have h2 := bJ.mp h1 j (nh.mpr hj)
 have : l.contains j = false := by simpa using hn
 rw [this, CU, eU, decide_eq_true_eq] at h2
 exact ⟨h2.1, by unfold gR; simpa using h2.2⟩
section
variable {prog : aG} {w : aE} {A : bm} {E : aa -> ae -> Prop} {s : ae}
theorem d5.keep {h h' : ao} {key : List (Sum Int ac)} {u : aa} (X : d5 prog w h key u) (hk : ∀ a o, h.get? a = some o -> o.cls = .type "tuple" -> h'.get? a = some o) : d5 prog w h' key u := by
 obtain ⟨x, y, k, e, x', y', k', a, o, n, t1, t2, t3, e2, e3, ho, hc, hd⟩ := X
 exact ⟨x, y, k, e, x', y', k', a, o, n, t1, t2, t3, e2, e3, hk a o ho hc, hc, hd⟩
set_option tactic.hygienic true in
theorem bj.put {S : ak} {es : Array (Int × aa)} {ep : Nat} {t : bn} {keys : List (List (Sum Int ac))} {h : ao} (L : bj prog w h S es ep t keys) {key : List (Sum Int ac)} {u : aa} (X : d5 prog w h key u)
  (h4 : es.size < 4) {k : Nat} (UK : t.slot (bC (hk prog w key) k).j = .empty) (Uv : ∀ k', k' < k -> t.slot (bC (hk prog w key) k').j ≠ .empty) (pl : Bool) :
  ∃ Sm, Sm.Perm (key :: keys) /\ bj prog w (h.update S (Obj.putSet (gj es (t.put (bC (hk prog w key) k).j).2 (hk prog w key, u)) { (t.put (bC (hk prog w key) k).j).1 with plain := pl })) S
   (gj es (t.put (bC (hk prog w key) k).j).2 (hk prog w key, u)) (ep + 1) { (t.put (bC (hk prog w key) k).j).1 with plain := pl } Sm := by
 generalize hj : (bC (hk prog w key) k).j = j at UK
 have j8 : j < 8 := by rw [<-hj]; exact By _ _
 have hn : j ∉ t.place.toList := fun m => by
  obtain ⟨i, hi⟩ := ju.mp m
  rw [fy] at hi
  rw [L.live i j hi] at UK; cases UK
 have Tn := L.size
 obtain ⟨r1, r2⟩ := Ei L.rise (by simpa [Tn] using h4) j8 hn
 have hp : (t.put j).2 = eL t.place j := rfl
 have hd : xL t.dummies j = false := by rw [L.dum]; simp [xL]
 have ht : (t.put j).1 = { t with place := gj t.place (eL t.place j) j } := by
  unfold SetTable.put; simp only [hd, cu, if_false]
 rw [hp, ht]
 have VS : eL t.place j <= t.place.size := by simpa using r1
 have UC : (gj t.place (eL t.place j) j).toList ∈ i9 := by rw [qs]; simpa using r2
 generalize eL t.place j = p at VS UC
 have pe : p <= es.size := by trivial
 have pk : p <= keys.length := by rw [L.len]; exact pe
 obtain ⟨o, ho, UM, U0⟩ := L.obj
 have keep : ∀ a' o', h.get? a' = some o' -> o'.cls = .type "tuple" -> (h.update S (Obj.putSet (gj es p (hk prog w key, u)) { t with place := gj t.place p j, plain := pl })).get? a' = some o' := fun a' o' e c => by
  rw [Heap.get?_update_other]
  ·exact e
  ·intro q; subst q
   rw [e] at ho; cases ho
   have := UM.1
   rw [c] at this; simp at this
 have busy : ∀ j', t.slot j' ≠ .empty -> ({ t with place := gj t.place p j, plain := pl } : bn).slot j' ≠ .empty := fun j' hb => by
  rcases uq L.dum j' with q | ⟨i, q, hi⟩
  ·exact absurd q hb
  ·have : j' ∈ (gj t.place p j).toList := by
    rw [qs, yh]; exact .inr (aT (by rw [fy]; exact hi))
   obtain ⟨i', T0⟩ := ju.mp this
   rw [fy] at T0
   rw [slot_of (t := { t with place := gj t.place p j, plain := pl }) UC T0]
   simp
 refine ⟨gR keys p key, FE _ _ _, ⟨⟨_, uc _ ho (by rw [putSet_of _ _ U0]; rfl), ?_, by rw [putSet_of _ _ U0]⟩, ?_, L.mask, L.dum, ?_, ?_, ?_, ?_, UC⟩⟩
 ·rw [putSet_of _ _ U0]; exact UM
 ·unfold Dp Q4
  simp only [qD, L.dum, L.mask, Tn]
  simp; trivial
 ·rw [qD]; trivial
 ·intro i e hi
  rw [As _ pe] at hi
  rw [wc _ pk]
  split
  ·rename_i z
   rw [if_pos z] at hi
   obtain ⟨Sz, k1, k2, k3⟩ := L.ents i e hi
   exact ⟨Sz, k1, k2.keep keep, k3⟩
  ·rename_i z
   rw [if_neg z] at hi
   split
   ·rename_i z2
    rw [if_pos z2] at hi; cases hi
    exact ⟨key, rfl, X.keep keep, rfl⟩
   ·rename_i z2
    rw [if_neg z2] at hi
    obtain ⟨Sz, k1, k2, k3⟩ := L.ents _ e hi
    exact ⟨Sz, k1, k2.keep keep, k3⟩
 ·intro i j' Sz hi TY
  rw [wc _ pk] at hi
  have TY : (gj t.place p j)[i]? = some j' := TY
  rw [As _ VS] at TY
  have old : ∀ i, keys[i]? = some Sz -> t.place[i]? = some j' -> ∃ k, (bC (hk prog w Sz) k).j = j' /\ ∀ k', k' < k -> ({ t with place := gj t.place p j, plain := pl } : bn).slot (bC (hk prog w Sz) k').j ≠ .empty := fun i h1 h2 => by
   obtain ⟨k, q1, q2⟩ := L.walk i j' Sz h1 h2
   exact ⟨k, q1, fun k' TS => busy _ (q2 k' TS)⟩
  split at hi
  ·rename_i z; rw [if_pos z] at TY; exact old i hi TY
  ·rename_i z; rw [if_neg z] at TY
   split at hi
   ·rename_i z2
    rw [if_pos z2] at TY; cases TY; cases hi
    exact ⟨k, hj, fun k' TS => busy _ (Uv k' TS)⟩
   ·rename_i z2
    rw [if_neg z2] at TY; exact old _ hi TY
 ·rw [B3, qD, L.len]
end
end
section
section
variable {prog : aG} {w : aE} {A : bm} {E : aa -> ae -> Prop} {s : ae}
theorem bj.add {S : ak} {es : Array (Int × aa)} {ep : Nat} {t : bn} {keys : List (List (Sum Int ac))} (L : bj prog w s.heap S es ep t keys) {key : List (Sum Int ac)} {u : aa} (X : d5 prog w s.heap key u)
  (hu : A.units < dR) (h4 : es.size < 4) {Q : Bool -> ae -> Prop}
  (h : ∀ b h' Si U2 t' Sm, bj prog w h' S Si U2 t' Sm -> oH S s.heap h' -> (∀ z, z ∈ Sm ↔ z = key \/ z ∈ keys) -> (keys.Nodup -> Sm.Nodup) -> Si.size <= es.size + 1 -> t'.led = t.led -> ((es.size = 0 \/ t.plain = false) -> (Si.size = 0 \/ t'.plain = false)) -> (∀ e ∈ Si.toList, e ∈ es.toList \/ e.2 = u) -> Q b { s with heap := h' }) :
  af (am prog w) A (setAddHashed S u (hk prog w key)) Q E s := by
 have Xe : key ∈ keys -> Q false s := fun hm => h false s.heap es ep t keys L (Heap.SameBut.refl _ _) (fun z => ⟨.inr, fun q => q.elim (fun e => e ▸ hm) id⟩) id (io _) rfl id fun u' m => .inl m
 unfold setAddHashed setAddHashedIn
 refine dS (ah (L.state ?_))
 dsimp only
 have hs : byScan u es = false := by
  obtain ⟨a, rfl, _⟩ := X.key; rfl
 rw [hs]
 simp only [cu, if_false]
 have Tn := L.size
 obtain ⟨e, he1, WZ⟩ := FT L.dum (by trivial) (hk prog w key)
 unfold setSearch
 refine ah (bj.search L X hu WZ he1 ?_ (fun k UK Uv Z6 => ?_) 100000 0 none (dZ _) (by trivial) (Jr L.mask _) .none)
 ·intro hm
  dsimp only
  exact av (Xe hm)
 ·dsimp only
  refine ah (L.state ?_)
  dsimp only
  obtain ⟨o, ho, UM, U0⟩ := L.obj
  have Sk : ∀ pl : Bool, pl = false -> af (am prog w) A (do
    storeSet S (gj es (t.put (bC (hk prog w key) k).j).2 (hk prog w key, u)) { (t.put (bC (hk prog w key) k).j).1 with plain := pl }
    if (!false && ({ (t.put (bC (hk prog w key) k).j).1 with plain := pl } : bn).tooFull) = true then setRelay S (SetTable.grown (es.size + 1))
    pure true) Q E s := by
   intro pl SF
   obtain ⟨Sm, pm, L'⟩ := L.put X h4 UK Uv pl
   refine ah (wpAny_storeSet_of ho U0 ?_ (by rw [qD]; unfold fv; trivial))
   have tf : ({ (t.put (bC (hk prog w key) k).j).1 with plain := pl } : bn).tooFull = false := by
    have f1 := L'.size
    have f2 := L'.few
    have f3 := L'.dum
    have f4 := L'.mask
    unfold SetTable.tooFull Q4
    rw [f1, f3, f4]
    simp; exact c6 f2
   rw [tf]
   simp only [jt, P2, cu, if_false]
   refine ah (av ?_)
   refine av (h true _ _ _ _ Sm L' (mY _ S _) (fun z => by rw [pm.mem_iff, aP]) (fun nd => pm.nodup_iff.mpr (dh.mpr ⟨Z6, nd⟩)) (by rw [qD]; trivial) rfl (fun u' => .inr SF) (fun e m => by rw [qs, yh] at m; exact m.elim (fun q => .inr (by rw [q])) .inl))
  obtain ⟨x0, y0, k0, ek0, lo⟩ := X
  refine ua (fun u' => ah (Jw lo ?_)) (fun XI => ah (av ?_))
  ·simp only [cu, if_false]
   exact Sk false rfl
  ·simp only [if_true]
   exact Sk _ (lq.mpr XI)
end
end
section
noncomputable abbrev gv := List (Sum Int ac)
section
variable {prog : aG} {w : aE} {A : bm} {E : aa -> ae -> Prop} {s : ae}
theorem bj.keep {h h' : ao} {S : ak} {es : Array (Int × aa)} {ep : Nat} {t : bn} {keys : List gv} (L : bj prog w h S es ep t keys) (hS : ∀ o, h.get? S = some o -> h'.get? S = some o) (hk : ∀ a o, h.get? a = some o -> o.cls = .type "tuple" -> h'.get? a = some o) : bj prog w h' S es ep t keys := by
 obtain ⟨o, ho, hr⟩ := L.obj
 exact ⟨⟨o, hS o ho, hr⟩, L.fits, L.mask, L.dum, L.few, fun i e he => by obtain ⟨key, k1, k2, k3⟩ := L.ents i e he; exact ⟨key, k1, k2.keep hk, k3⟩, L.walk, L.len, L.rise⟩
theorem wh {h : ao} {a b : ak} {oa ob : de} (ha : h.get? a = some oa) (hb : h.get? b = some ob) (hc : oa.cls ≠ ob.cls) : a ≠ b := fun e => by subst e; rw [ha] at hb; cases hb; exact hc rfl
def nC (prog : aG) (w : aE) (h : ao) (items : Array aa) (ks : List gv) : Prop := ∀ (i : Nat) (v : aa), items[i]? = some v -> ∃ key, ks[i]? = some key /\ d5 prog w h key v
theorem nC.keep {h h' : ao} {items : Array aa} {ks : List gv} (X : nC prog w h items ks) (hk : ∀ a o, h.get? a = some o -> o.cls = .type "tuple" -> h'.get? a = some o) : nC prog w h' items ks := fun i v e => by
 obtain ⟨key, k1, k2⟩ := X i v e; exact ⟨key, k1, k2.keep hk⟩
variable {R : Result -> ae -> Prop}
theorem Jy {I ax S : ak} {items : Array aa} {ks : List gv} (hh : A.in1.handled = none) (hu : A.in1.units < dR) (SM : ax ≠ I) (Uo : S ≠ I) (hSa : S ≠ ax) (hn : items.size <= 4) {led : Bool} :
  ∀ (k i : Nat) (s : ae) (es : Array (Int × aa)) (ep : Nat) (t : bn) (keys : List gv), items.size - i = k -> i <= items.size -> s.heap.IsListIter I ax i -> s.heap.IsList ax items -> nC prog w s.heap items ks →
   bj prog w s.heap S es ep t keys -> es.size <= i -> keys.Nodup -> (∀ z, z ∈ keys ↔ z ∈ ks.take i) -> t.led = led -> (es.size = 0 \/ t.plain = false) -> (∀ e ∈ es.toList, e.2 ∈ items.toList) →
   (∀ s' Si U2 t' Sm, bj prog w s'.heap S Si U2 t' Sm -> Sm.Nodup -> (∀ z, z ∈ Sm ↔ z ∈ ks.take items.size) -> t'.led = led -> (Si.size = 0 \/ t'.plain = false) -> (∀ e ∈ Si.toList, e.2 ∈ items.toList) -> (∀ b o, b ≠ S -> b ≠ I -> s.heap.get? b = some o -> s'.heap.get? b = some o) -> s'.gens = s.gens -> s'.os = s.os -> s'.drawn = s.drawn -> R (.ok (.ret .none)) s') →
   xx (am prog w) A (.builtin "set.update.loop" ⟨[.ref S, .ref I], []⟩) R s := by
 have W := (Walks.list (prog := prog) (w := w) (A := A.in1) hh I ax SM items).toS
 intro k
 induction k with
 | zero =>
  intro i s es ep t keys hk hi hit hl lits L hes nd mem SK SF Vn hR
  have XW : i = items.size := by trivial
  subst XW
  refine nr Q5 ?_
  rw [oV Ds _]
  show af _ A.in1 (g7 (.ref I) >>= _) _ _ s
  refine ah (W.done s _ _ ⟨hit, hl⟩ fun s' hm => ?_)
  show af _ A.in1 (ret Value.none) _ _ s'
  have TL : ∀ a o, s.heap.get? a = some o -> o.cls = .type "tuple" -> s'.heap.get? a = some o := fun a o ho hc => hm.heap a o (by
   simp only [aN]
   obtain ⟨oi, Vi, X1, _⟩ := hit
   exact wh ho Vi (by rw [hc, X1]; decide)) ho
  have T9 : ∀ b o, b ≠ S -> b ≠ I -> s.heap.get? b = some o -> s'.heap.get? b = some o := fun b o u' h2 e => hm.heap b o (by simpa using h2) e
  exact av (hR s' es ep t keys (L.keep (fun o e => hm.heap S o (by simpa using Uo) e) TL) nd mem SK SF Vn T9 hm.gens hm.os hm.drawn)
 | succ k ih =>
  intro i s es ep t keys hk hi hit hl lits L hes nd mem SK SF Vn hR
  have SV : i < items.size := by trivial
  refine nr Q5 ?_
  rw [oV Ds _]
  show af _ A.in1 (g7 (.ref I) >>= _) _ _ s
  refine ah (W.item i s _ _ SV ⟨hit, hl⟩ fun v s' hP Wc hm => ?_)
  have TL : ∀ a o, s.heap.get? a = some o -> o.cls = .type "tuple" -> s'.heap.get? a = some o := fun a o ho hc => hm.heap a o (by
   simp only [aN]
   obtain ⟨oi, Vi, X1, _⟩ := hit
   exact wh ho Vi (by rw [hc, X1]; decide)) ho
  have T9 : ∀ b o, b ≠ S -> b ≠ I -> s.heap.get? b = some o -> s'.heap.get? b = some o := fun b o u' h2 e => hm.heap b o (by simpa using h2) e
  have L' := L.keep (fun o e => hm.heap S o (by simpa using Uo) e) TL
  have UU := lits.keep TL
  obtain ⟨key, k1, X⟩ := UU i v hP
  obtain ⟨a, rfl, ka⟩ := X.key
  show af _ A.in1 (iR [Value.ref a] (setAdd S (.ref a)) >>= _) _ _ s'
  refine ah (dS ?_)
  unfold setAdd
  refine dS ?_
  refine ah (wpAny_pyHash_tuple hu ka ?_)
  refine bj.add (s := { s' with toks := s'.toks + (key.length + 1) }) L' X hu (by trivial) fun b h2 es2 ep2 t2 V4 L2 sb m2 VY sz2 Xt ZB ZO => ?_
  have Vb : ∀ a o, s'.heap.get? a = some o -> o.cls = .type "tuple" -> h2.get? a = some o := fun a o ho hc => by
   obtain ⟨os, Z5, UM, _⟩ := L'.obj
   rw [sb.2 a (wh ho Z5 (by rw [hc, UM.1]; decide))]; exact ho
  refine av ⟨qX Ds _, ih (i + 1) _ es2 ep2 t2 V4 (by trivial) SV ?_ ?_ (UU.keep Vb) L2 (by trivial) (VY nd) ?_ (Xt.trans SK) (ZB SF) (fun e he => (ZO e he).elim (Vn e) fun q => by rw [q]; exact aT (by rw [fy]; exact hP)) ?_⟩
  ·obtain ⟨oi, Vi, r⟩ := Wc.1
   exact ⟨oi, by rw [sb.2 I (lD Uo)]; exact Vi, r⟩
  ·obtain ⟨ol, Wi, r⟩ := Wc.2
   exact ⟨ol, by rw [sb.2 ax (lD hSa)]; exact Wi, r⟩
  ·intro z
   rw [m2, mem, List.take_succ, k1]
   simp [or_comm]
  ·intro s3 es3 ep3 t3 V3 L3 n3 m3 l3 p3 i3 k3 g3 o3 d3
   refine hR s3 es3 ep3 t3 V3 L3 n3 m3 l3 p3 i3 (fun b o q1 q2 e => k3 b o q1 q2 ?_) (g3.trans hm.gens) (o3.trans hm.os) (d3.trans hm.drawn)
   show h2.get? b = some o
   rw [sb.2 b q1]; exact T9 b o q1 q2 e
end
end
section
section
variable {prog : aG} {w : aE} {A : bm} {E : aa -> ae -> Prop} {s : ae}
noncomputable def bZ (prog : aG) (w : aE) : Bool := !((am prog w).w.params.followText "set-order")
theorem IW (a : aa) {Q₁ : aa -> ae -> Prop}
  (h : Q₁ (.ref s.heap.objs.size) { s with heap := s.heap.push { cls := .type "set", dict := none, data := .set #[] 0 (.fresh 0 0 (bZ prog w)) } }) :
  xx (am prog w) A (.call (.builtin "set.__new__") ⟨[.type "set", a], []⟩) (wants Q₁ E) s := by
 refine codeAny_of_tree ?_
 show af _ A.in1 (do checkBuiltinCall "set.__new__" ⟨[.type "set", a], []⟩; again (.builtin "set.__new__" ⟨[.type "set", a], []⟩)) _ _ s
 refine ah (xt (PySem.F.newCall_set_1 a) (av ⟨qX Q6 _, nr PySem.F.entry_set_new ?_⟩))
 rw [oV Q6 _]
 unfold gX.«set.__new__» RT
 have XE := sub_set_self
 obtain ⟨hp, g, d, tk, os⟩ := s
 dsimp only
 wp_walk
 refine Dt (av ?_)
 dsimp only
 simp only [newObj]
 refine ah (wpAny_alloc (av ?_))
 exact av h
theorem Pf {h : ao} {S : ak} {led : Bool} (hS : h.get? S = some { cls := .type "set", dict := none, data := .set #[] 0 (.fresh 0 0 led) }) : bj prog w h S #[] 0 (.fresh 0 0 led) [] :=
 ⟨⟨_, hS, ⟨rfl, rfl, rfl⟩, rfl⟩, rfl, rfl, rfl, by decide, fun i e he => by simp at he, fun i j key he => by simp at he, rfl, by show [] ∈ i9; decide +kernel⟩
set_option maxHeartbeats 3200000 in
theorem Kr {l : ak} {items : Array aa} {ks : List gv} {Q : aa -> ae -> Prop}
  (hh : A.handled = none) (hu : A.units + 50 < dR) (hl : s.heap.IsList l items) (lits : nC prog w s.heap items ks) (hb : items.size <= 4)
  (h : ∀ s' Si U2 t' Sm, bj prog w s'.heap s.heap.objs.size Si U2 t' Sm -> Sm.Nodup -> (∀ z, z ∈ Sm ↔ z ∈ ks.take items.size) -> t'.led = bZ prog w -> (Si.size = 0 \/ t'.plain = false) -> (∀ e ∈ Si.toList, e.2 ∈ items.toList) -> (∀ b o, s.heap.get? b = some o -> s'.heap.get? b = some o) -> s'.gens = s.gens -> s'.os = s.os -> s'.drawn = s.drawn -> Q (.ref s.heap.objs.size) s') :
  af (am prog w) A (call (.type "set") [.ref l]) Q E s := by
 obtain ⟨c, tl, Z9⟩ := ny.mro
 have YR := ny.made
 have XE := ny.sub
 refine wpAny_call (codeAny_of_tree ?_)
 show af _ _ (callAny (.type "set") _) _ _ _
 refine av ⟨Code.quiet_builtin _ (by decide +kernel), nr PySem.F.entry_type_call ?_⟩
 rw [Around.under_plain (weight_type_call_type "set" [.ref l] []) rfl]
 have h1 := ny.notType
 have h2 := ny.canCreate
 have hct := PySem.F.typeCall_set_1 (.ref l)
 repeat (any_goals (first | assumption | wp_step))
 refine codeAny_mono (IW (.ref l) (E := E) (Q₁ := fun obj Sd => obj = .ref s.heap.objs.size /\ Sd = { s with heap := s.heap.push { cls := .type "set", dict := none, data := .set #[] 0 (.fresh 0 0 (bZ prog w)) } }) ⟨rfl, rfl⟩) fun r Sd hr => ?_
 cases r with
 | error e => exact hr
 | ok fl =>
  cases fl with
  | ret obj =>
   obtain ⟨rfl, rfl⟩ := hr
   have hS : (s.heap.push { cls := .type "set", dict := none, data := .set #[] 0 (.fresh 0 0 (bZ prog w)) }).get? s.heap.objs.size = some { cls := .type "set", dict := none, data := .set #[] 0 (.fresh 0 0 (bZ prog w)) } := cz _ rfl
   have hT : Dh { s with heap := s.heap.push { cls := .type "set", dict := none, data := .set #[] 0 (.fresh 0 0 (bZ prog w)) } } (.ref s.heap.objs.size) "set" := ⟨_, hS, rfl⟩
   have hli := ny.init.lookup
   have hbi := ny.init.bind (.ref s.heap.objs.size)
   repeat (any_goals (first | assumption | wp_step))
   refine codeAny_mono (codeAny_call_builtin (R := wants (fun r Sp => r = .none /\ Q (.ref s.heap.objs.size) Sp) E) ny.init.plain PySem.F.entry_set_init (check_set_init_1 hT ?_)) fun Xj Sp Uc => ?_
   ·obtain ⟨ol, Wi, SO, nl, W1⟩ := hl
    obtain ⟨ZF, VX, YA, U8⟩ := ol
    simp only at SO W1
    subst SO; subst W1
    have Ud : (s.heap.push { cls := .type "set", dict := none, data := .set #[] 0 (.fresh 0 0 (bZ prog w)) }).get? l = some { cls := .type "list", dict := VX, data := .seq items nl, slots := U8 } := br _ Wi
    have ZY := PySem.F.sub_list_set
    have ZZ := PySem.F.sub_list_frozenset
    have SM : (Value.type "list" == Value.type "dict") = false := by decide
    have VC : (s.heap.push { cls := .type "set", dict := none, data := .set #[] 0 (.fresh 0 0 (bZ prog w)) }).IsList l items := ⟨_, Ud, rfl, nl, rfl⟩
    unfold gX.«set.__init__» noKeywords RU
    generalize Yb : fz = PI
    wp_walk
    subst Yb
    refine Qz VC ?_
    refine ah (Dg ?_)
    have YT : l < s.heap.objs.size := dT Wi
    have XN : l ≠ (s.heap.push { cls := .type "set", dict := none, data := .set #[] 0 (.fresh 0 0 (bZ prog w)) }).objs.size := by
     rw [gc]; exact cB (j6 YT)
    have Uo : s.heap.objs.size ≠ (s.heap.push { cls := .type "set", dict := none, data := .set #[] 0 (.fresh 0 0 (bZ prog w)) }).objs.size := by
     rw [gc]; exact cB (j7 _)
    have k1 : ∀ b o, s.heap.get? b = some o -> ((s.heap.push { cls := .type "set", dict := none, data := .set #[] 0 (.fresh 0 0 (bZ prog w)) }).push { cls := .type "list_iterator", data := .fields #[.ref l, .int 0 0] }).get? b = some o := fun b o e => br _ (br _ e)
    refine Jy (by simp [hh]) (by show A.units + 1 + 1 + 1 < dR; trivial) XN Uo (xj YT) hb (items.size - 0) 0 _ #[] 0 _ [] (by trivial) (dZ _)
     ⟨_, cz _ rfl, rfl, rfl⟩ (VC.push _) (lits.keep fun a o e u' => k1 a o e) (Pf (br _ hS)) (by simp) m8 (by simp) rfl (.inl rfl) (by simp) ?_
    intro s' Si U2 t' Sm L nd mem led pl ii keep g1 o1 d1
    refine av ?_
    show af _ _ (ret Value.none) _ _ _
    refine av ⟨rfl, h s' Si U2 t' Sm L nd mem led pl ii (fun b o e => ?_) g1 o1 d1⟩
    have := dT e
    refine keep b o (cB this) ?_ (k1 b o e)
    rw [gc]; exact cB (j6 this)
   ·cases Xj with
    | error e => exact Uc
    | ok fl₂ =>
     cases fl₂ with
     | ret r =>
      obtain ⟨rfl, hq⟩ := Uc
      repeat (any_goals (first | assumption | wp_step))
     | _ => exact Uc.elim
  | _ => exact hr.elim
end
end
section
namespace SI
theorem owner : Manifest.owners.lookup (String.ofList ['r', 'o', 't', 'a', 'r', 'e', 't', 'i', '_', 't', 'e', 's'].reverse) = some Manifest.sig_set_iterator := by kernel_rfl
theorem slot_next : Slot "set_iterator" "__next__" "set_iterator.__next__" :=
 .of (owner := "set_iterator") (n := "__next__") (by rw [xe, xf]; kernel_rfl) (by decide +kernel) (by decide +kernel) (by decide +kernel)
  (by first | exact .inl (by decide +kernel) | exact .inr (by decide +kernel)) (by rw [xJ]; kernel_rfl)
theorem entry_next : entryFor table "set_iterator.__next__" = some gX.«set_iterator.__next__» := entryFor_of_tree (by kernel_rfl)
theorem args_next (a : aa) : argsOk "set_iterator.__next__" ⟨[a], []⟩ := by
 unfold argsOk; rw [signature?_of (id := "set_iterator.__next__") (n := ['_', '_', 't', 'x', 'e', 'n', '_', '_']) (o := ['r', 'o', 't', 'a', 'r', 'e', 't', 'i', '_', 't', 'e', 's']) (by kernel_rfl) owner]; kernel_rfl
theorem slot_iter : Slot "set_iterator" "__iter__" "set_iterator.__iter__" :=
 .of (owner := "set_iterator") (n := "__iter__") (by rw [xe, xf]; kernel_rfl) (by decide +kernel) (by decide +kernel) (by decide +kernel)
  (by first | exact .inl (by decide +kernel) | exact .inr (by decide +kernel)) (by rw [xJ]; kernel_rfl)
theorem entry_iter : entryFor table "set.__iter__" = some gX.«frozenset.__iter__» :=
 entryFor_alias (id' := "frozenset.__iter__") (by kernel_rfl) rfl (by decide +kernel) (by kernel_rfl)
end SI
theorem zD {α : Type} : ∀ {l : List α} {i : Nat} {x : α}, l[i]? = some x -> (x :: l.eraseIdx i).Perm l := by
 intro l
 induction l with
 | nil =>
  intro i x h
  simp at h
 | cons a r iH =>
  intro Se
  cases Se with
  | zero =>
   intro x h
   simp at h; subst h; exact .refl _
  | succ i =>
   intro x h
   simp at h
   have := iH h
   rw [Qg]
   exact (List.Perm.swap _ _ _).trans (this.cons a)
theorem Fz {α : Type} (next : Nat -> Nat) : ∀ (f k : Nat) (left : List α) (out : Array α), left.length <= f -> (Du next f k left out).toList.Perm (out.toList ++ left) := by
 intro f
 induction f with
 | zero =>
  intro k left out h
  have : left = [] := ik (by trivial)
  subst this; simp [Du]
 | succ f iH =>
  intro k left out h
  unfold Du
  rcases left with _ | ⟨a, r⟩
  ·simp
  ·have hl : next k % (a :: r).length < (a :: r).length := to _ (by simp)
   obtain ⟨x, hx⟩ : ∃ x, (a :: r)[next k % (a :: r).length]? = some x := ⟨_, bR hl⟩
   rw [hx]
   dsimp only
   have Sx : ((a :: r).eraseIdx (next k % (a :: r).length)).length <= f := by rw [Q7 hl]; simp at h ⊢; trivial
   refine (iH (k + 1) _ (out.push x) Sx).trans ?_
   rw [CW, fL]
   exact (zD hx).append_left _
theorem Bf {α : Type} (next : Nat -> Nat) (xs : Array α) : (pickOrder next xs).toList.Perm xs.toList := by
 have := Fz next xs.size 0 xs.toList #[] (by simp)
 simpa [pickOrder] using this
section
variable {prog : aG} {w : aE} {A : bm} {E : aa -> ae -> Prop} {s : ae} {M : Model}
theorem K4 {Ys : Source} {n : Nat} {Q : Nat -> ae -> Prop} (hn : n ≠ 0) (h : ∀ k d, k < n -> Q k { s with drawn := d }) : af M A (choose Ys n) Q E s := fun Γ p hΓ => by
 show Sem.wp M Γ (.choose Ys n .pure) _ _ p s
 rw [Sem.wp_choose]
 refine ⟨hn, ?_⟩
 rw [Sem.wp_pure]
 exact h _ _ (to _ (Nat.pos_of_ne_zero hn))
theorem Pm {α : Type} : ∀ (n : Nat) (xs : List α) (s : ae) (Q : List α -> ae -> Prop), xs.length = n -> (∀ ys d, ys.Perm xs -> Q ys { s with drawn := d }) -> af M A (drawOrder n xs) Q E s := by
 intro n
 induction n with
 | zero =>
  intro xs s Q hl h
  have : xs = [] := ik hl
  subst this
  unfold drawOrder
  exact av (h [] s.drawn (.refl _))
 | succ n iH =>
  intro Se
  cases Se with
  | nil =>
   intro s Q hl h
   simp at hl
  | cons a r =>
   intro s Q hl h
   unfold drawOrder
   refine ah (K4 (by simp) fun k d hk => ?_)
   obtain ⟨x, hx⟩ : ∃ x, (a :: r)[k]? = some x := ⟨_, bR hk⟩
   rw [hx]
   dsimp only
   refine ah (iH _ _ _ (by rw [Q7 hk]; trivial) fun ys d' p => ?_)
   exact av (h (x :: ys) d' ((p.cons x).trans (zD hx)))
end
end
section
section
variable {prog : aG} {w : aE} {A : bm} {E : aa -> ae -> Prop} {s : ae}
noncomputable def yJ (first : aa) (i : Int) (S : ak) (n ep : Nat) : de := { cls := .type "set_iterator", data := .fields #[first, .int i 0, .ref S, .int n 0, .int ep 0] }
theorem bj.typeIs {S : ak} {es : Array (Int × aa)} {ep : Nat} {t : bn} {keys : List gv} (L : bj prog w s.heap S es ep t keys) : s.TypeIs (.ref S) "set" := by
 obtain ⟨o, ho, UM, _⟩ := L.obj
 exact ⟨o, ho, UM.1⟩
theorem vP {Q : Bool -> ae -> Prop} (h : Q (!bZ prog w) s) : af (am prog w) A setsByText Q E s := by
 unfold setsByText
 refine ah (Dt (av ?_))
 have : (am prog w).w.params.followText "set-order" = !bZ prog w := by unfold bZ; simp
 show Q ((am prog w).w.params.followText "set-order") s
 rw [this]; exact h
theorem EF {S : ak} {es : Array (Int × aa)} {ep : Nat} {t : bn} {keys : List gv} (L : bj prog w s.heap S es ep t keys) (SF : es.size = 0 \/ t.plain = false) {Q : Bool -> ae -> Prop} (h : Q (bZ prog w && decide (1 < es.size)) s) : af (am prog w) A (setDrawn S) Q E s := by
 unfold setDrawn
 refine ah (L.state ?_)
 refine ah (vP (av ?_))
 have : (!(!bZ prog w) && (!t.plain && decide (es.size > 1))) = (bZ prog w && decide (1 < es.size)) := by
  rcases SF with e | e
  ·rw [e]; simp
  ·rw [e]; simp
 show Q (!(!bZ prog w) && (!t.plain && decide (es.size > 1))) s
 rw [this]; exact h
theorem D5 {S : ak} {es : Array (Int × aa)} {ep : Nat} {t : bn} {keys : List gv} (L : bj prog w s.heap S es ep t keys) (SF : es.size = 0 \/ t.plain = false) {Q : aa -> ae -> Prop}
  (q1 : (bZ prog w = false \/ es.size <= 1) -> Q (.ref s.heap.objs.size) { s with heap := s.heap.push (yJ (.int 0 0) 0 S es.size ep) })
  (q2 : bZ prog w = true -> 1 < es.size -> ∀ (ys : List Nat) d, ys.Perm (bQ es.size) -> Q (.ref (s.heap.objs.size + 1)) { s with drawn := d, heap := (s.heap.push { cls := .type "tuple", data := .seq (ys.map fun (i : Nat) => dO i).toArray }).push (yJ (.ref s.heap.objs.size) 0 S es.size ep) }) :
  af (am prog w) A (fz (.ref S)) Q E s := by
 have hT := L.typeIs
 obtain ⟨o, ho, UM, hd⟩ := L.obj
 refine Q8 hT Q9 (nq Q9 hT SI.entry_iter ?_ (PySem.F.args_set_iter_1 _))
 unfold gX.«frozenset.__iter__» RV slotArgs
 simp only [List.isEmpty_nil, gf, cu, ↓reduceIte, bind_assoc, xC, bne_self_eq_false]
 unfold RW RX
 refine ah (av ?_)
 try dsimp only
 refine ah (av ?_)
 refine ah (ah (Ra ho hd L.fits (av ?_)))
 refine ah (EF L SF ?_)
 by_cases hc : bZ prog w = true /\ 1 < es.size
 ·rw [if_pos (by simp [hc.1, hc.2])]
  refine ah (Pm _ _ _ _ (by simp) fun ys d p => ?_)
  have UX : ys.length <= 4 := by rw [p.length_eq, qR]; have := L.few; trivial
  refine ah (gZ ?_ (by show sizeOk (.seq _) ; simp only [sizeOk]; rw [cQ]; simp; trivial))
  have k1 : (s.heap.push { cls := .type "tuple", data := .seq (ys.map fun (i : Nat) => dO i).toArray }).get? S = some o := br _ ho
  refine ah (Rb (s := { s with drawn := d, heap := s.heap.push { cls := .type "tuple", data := .seq (ys.map fun (i : Nat) => dO i).toArray } }) k1 hd L.fits ?_)
  refine ah (gZ ?_ (by size_fits))
  refine av ⟨_, rfl, "set_iterator", _, ⟨_, cz _ rfl, rfl⟩, SI.slot_next.lookup, ?_⟩
  have := q2 hc.1 hc.2 ys d p
  rw [gc]
  exact this
 ·rw [if_neg (by
   intro z; simp only [eU, decide_eq_true_eq] at z; exact hc z)]
  refine ah (av ?_)
  refine ah (Rb ho hd L.fits ?_)
  refine ah (gZ ?_ (by size_fits))
  refine av ⟨_, rfl, "set_iterator", _, ⟨_, cz _ rfl, rfl⟩, SI.slot_next.lookup, ?_⟩
  refine q1 ?_
  cases e : bZ prog w
  ·exact .inl rfl
  ·exact .inr (by
    have := hc
    rw [e] at this; simp at this; exact this)
end
end
section
section
variable {prog : aG} {w : aE} {A : bm} {E : aa -> ae -> Prop} {s : ae}
def gm (h : ao) (S : ak) (es : Array (Int × aa)) (ep : Nat) (t : bn) : Prop := ∃ o, h.get? S = some o /\ o.data = .set es ep t /\ t.fits es.size = true
def fX (h : ao) (I : ak) (first : aa) (i : Nat) (S : ak) (n ep : Nat) : Prop := ∃ o, h.get? I = some o /\ o.cls = .type "set_iterator" /\ o.data = .fields #[first, .int i 0, .ref S, .int n 0, .int ep 0]
theorem fX.typeIs {I : ak} {first : aa} {i : Nat} {S : ak} {n ep : Nat} (x : fX s.heap I first i S n ep) : s.TypeIs (.ref I) "set_iterator" := let ⟨o, ho, hc, _⟩ := x; ⟨o, ho, hc⟩
theorem gm.state {S : ak} {es : Array (Int × aa)} {ep : Nat} {t : bn} (x : gm s.heap S es ep t) {Q : (Array (Int × aa) × Nat × bn) -> ae -> Prop} (h : Q (es, ep, t) s) : af (am prog w) A (setState S) Q E s := by
 obtain ⟨o, ho, hd, hf⟩ := x; exact Q1 ho hd hf h
theorem gm.entries {S : ak} {es : Array (Int × aa)} {ep : Nat} {t : bn} (x : gm s.heap S es ep t) {Q : Array (Int × aa) -> ae -> Prop} (h : Q es s) : af (am prog w) A (setEntries S) Q E s := by
 obtain ⟨o, ho, hd, hf⟩ := x; exact Ra ho hd hf h
noncomputable def jm (prog : aG) (w : aE) (S : ak) (es : Array (Int × aa)) (ep : Nat) : List (Int × aa) := if bZ prog w = true then es.toList else (pickOrder ((am prog w).w.params.setOrder S ep) es).toList
noncomputable def slotAt (prog : aG) (w : aE) (t : bn) (i : Nat) : Nat := if bZ prog w = true then (if i = 0 then 0 else t.place.getD 0 0 + 1) else 0
theorem Ew (j : Nat) : eL #[j] 0 = 0 := by
 unfold eL; simp [Rf]
theorem NJ (j : Nat) : eL #[j] (j + 1) = 1 := by
 unfold eL; simp [Rf]
theorem Be {S : ak} {es : Array (Int × aa)} {ep : Nat} {t : bn} (x : gm s.heap S es ep t) (SK : t.led = bZ prog w) (SF : es.size = 0 \/ t.plain = false) (hc : bZ prog w = false \/ es.size <= 1) {i : Nat} (hi : i <= es.size) {Q : Option (aa × Nat) -> ae -> Prop}
  (h : Q ((jm prog w S es ep)[i]?.map fun e => (e.2, slotAt prog w t (i + 1))) s) : af (am prog w) A (setNext S (slotAt prog w t i) i ep) Q E s := by
 unfold setNext
 refine ah (x.state ?_)
 refine ah (vP ?_)
 cases e : bZ prog w
 ·simp only [jt, if_true]
  rw [if_neg (by simp)]
  refine ah ?_
  unfold setWalk
  refine ah (x.state ?_)
  refine ah (vP ?_)
  rw [e]
  simp only [jt, if_true]
  refine ah (Dt (av ?_))
  refine av ?_
  simp only [jm, slotAt, e, cu, if_false, fy] at h ⊢
  exact h
 ·have h1 : es.size <= 1 := hc.resolve_left (by rw [e]; simp)
  simp only [gf, cu, if_false]
  show af _ _ (if (!t.plain && decide (es.size > 1)) = true then _ else _) Q E s
  rw [if_neg (by simp; trivial)]
  show af _ _ ((if (!t.led && !es.isEmpty) = true then unsupported _ else pure ()) >>= _) Q E s
  rw [if_neg (by rw [SK, e]; simp)]
  refine ah (av (av ?_))
  have Tn : t.place.size = es.size := by
   obtain ⟨_, _, _, hf⟩ := x
   unfold Dp at hf
   simp only [eU, beq_iff_eq] at hf; exact hf.1
  simp only [jm, slotAt, e, if_true] at h ⊢
  have Wr : es.size = 0 \/ es.size = 1 := by trivial
  rcases Wr with h0 | h0
  ·have e1 : es = #[] := Array.eq_empty_of_size_eq_zero h0
   subst e1
   simpa using h
  ·obtain ⟨e0, e1⟩ : ∃ e0, es = #[e0] := Dv.mp h0
   obtain ⟨j, e2⟩ : ∃ j, t.place = #[j] := Dv.mp (Tn.trans h0)
   subst e1
   rw [e2] at h ⊢
   have : i = 0 \/ i = 1 := by simp at hi; trivial
   rcases this with rfl | rfl
   ·simp only [if_true, Ew]
    simpa using h
   ·simp only [Nat.one_ne_zero, if_false]
    have : (#[j] : Array Nat).getD 0 0 + 1 = j + 1 := rfl
    rw [this, NJ]
    simpa using h
end
end
section
section
variable {prog : aG} {w : aE} {A : bm} {E : aa -> ae -> Prop} {s : ae}
theorem gm.other {h h' : ao} {S : ak} {es : Array (Int × aa)} {ep : Nat} {t : bn} (x : gm h S es ep t) (k : ∀ o, h.get? S = some o -> h'.get? S = some o) : gm h' S es ep t := by
 obtain ⟨o, ho, r⟩ := x; exact ⟨o, k o ho, r⟩
theorem tc {S : ak} {es : Array (Int × aa)} {ep : Nat} : (jm prog w S es ep).length = es.size := by
 unfold jm; split
 ·simp
 ·rw [(Bf _ _).length_eq]; simp
theorem ND {I S : ak} {es : Array (Int × aa)} {ep : Nat} {t : bn} {i : Nat} (hit : fX s.heap I (.int (slotAt prog w t i) 0) i S es.size ep) (x : gm s.heap S es ep t) (Uo : S ≠ I) (SK : t.led = bZ prog w) (SF : es.size = 0 \/ t.plain = false) (hc : bZ prog w = false \/ es.size <= 1)
  {e : Int × aa} (he : (jm prog w S es ep)[i]? = some e) {Q : Option aa -> ae -> Prop}
  (hQ : ∀ h', fX h' I (.int (slotAt prog w t (i + 1)) 0) (i + 1) S es.size ep -> oH I s.heap h' -> Q (some e.2) { s with heap := h' }) : af (am prog w) A (g7 (.ref I)) Q E s := by
 obtain ⟨o, ho, SO, hd⟩ := id hit
 unfold g7
 refine ah (xM (xN (name := ud "__next__") hit.typeIs SI.slot_next
  (nq SI.slot_next hit.typeIs SI.entry_next ?_ (SI.args_next _))))
 refine ah (av ?_)
 refine ah (xO ho hd ?_)
 dsimp only
 refine ah (x.entries ?_)
 rw [if_neg (by simp)]
 have hi : i < es.size := by
  have := (bG.mp he).1
  rwa [tc] at this
 refine ah (Be x SK SF hc (j5 hi) ?_)
 rw [he]
 simp only [dN]
 refine ah (q9 ho hd (by simp) ?_)
 have h1 := uc (rc (·.setIfInBounds 0 (dO (slotAt prog w t (i + 1))))) ho (xP (nz hd _))
 have d1 := nz hd (·.setIfInBounds 0 (dO (slotAt prog w t (i + 1))))
 refine ah (q9 (s := { s with heap := s.heap.update I (rc (·.setIfInBounds 0 (dO (slotAt prog w t (i + 1))))) }) h1 d1 (by simp) ?_)
 have h2 := uc (rc (·.setIfInBounds 1 (dO ((i : Int) + 1)))) h1 (xP (nz d1 _))
 refine av ⟨_, rfl, av (hQ _ ⟨_, h2, ?_, ?_⟩ ((mY ..).trans (mY ..)))⟩
 ·rw [Dw, Dw]; exact SO
 ·rw [nz d1]; simp [dO]
theorem Je {I S : ak} {es : Array (Int × aa)} {ep : Nat} {t : bn} (hh : A.handled = none) (hit : fX s.heap I (.int (slotAt prog w t es.size) 0) es.size S es.size ep) (x : gm s.heap S es ep t) (SK : t.led = bZ prog w) (SF : es.size = 0 \/ t.plain = false) (hc : bZ prog w = false \/ es.size <= 1)
  {Q : Option aa -> ae -> Prop} (hQ : ∀ h', Heap.ExtBut I s.heap h' -> Q none { s with heap := h' }) : af (am prog w) A (g7 (.ref I)) Q E s := by
 obtain ⟨o, ho, SO, hd⟩ := id hit
 unfold g7
 refine ah (xM (xN (name := ud "__next__") hit.typeIs SI.slot_next
  (nq SI.slot_next hit.typeIs SI.entry_next ?_ (SI.args_next _))))
 refine ah (av ?_)
 refine ah (xO ho hd ?_)
 dsimp only
 refine ah (x.entries ?_)
 rw [if_neg (by simp)]
 refine ah (Be x SK SF hc (bq _) ?_)
 rw [mQ (by rw [tc]; exact bq _)]
 simp only [P8]
 refine ah (q9 ho hd (by simp) ?_)
 show af _ _ (newExc (.type "StopIteration") [] >>= _) _ _ _
 refine ah ?_
 simp only [newExc, newTuple]
 refine ah (gZ ?_ (by size_fits))
 refine ah (m := xQ _ _) (xt (a := Value.none) (by first | rfl | (simp only [xQ]; rfl)) ?_)
 refine gZ ?_ (by size_fits)
 simp only [raiseNew]
 refine ah (wpAny_handled ?_)
 rw [show A.in1.handled = none from hh]
 refine ah (av (wpAny_throw ?_))
 refine ah (tW (T := "StopIteration") (b := true) ⟨_, cz _ rfl, rfl⟩ isSubtype_stop ?_)
 exact av (hQ _ (((mY ..).extBut.push _).push _))
theorem K9 {I S P : ak} {es : Array (Int × aa)} {ep : Nat} {t : bn} {ys : List Nat} {i j : Nat} {op : de} {np : Nat} (hit : fX s.heap I (.ref P) i S es.size ep) (x : gm s.heap S es ep t) (hP : s.heap.get? P = some op) (Ya : op.data = .seq (ys.map fun (k : Nat) => dO k).toArray np)
  (hj : ys[i]? = some j) {e : Int × aa} (he : es[j]? = some e) {Q : Option aa -> ae -> Prop}
  (hQ : ∀ h', fX h' I (.ref P) (i + 1) S es.size ep -> oH I s.heap h' -> Q (some e.2) { s with heap := h' }) : af (am prog w) A (g7 (.ref I)) Q E s := by
 obtain ⟨o, ho, SO, hd⟩ := id hit
 unfold g7
 refine ah (xM (xN (name := ud "__next__") hit.typeIs SI.slot_next
  (nq SI.slot_next hit.typeIs SI.entry_next ?_ (SI.args_next _))))
 refine ah (av ?_)
 refine ah (xO ho hd ?_)
 dsimp only
 refine ah (x.entries ?_)
 rw [if_neg (by simp)]
 refine ah (rP hP Ya ?_)
 dsimp only
 have SF : ((ys.map fun (k : Nat) => dO k).toArray)[((i : Nat) : Int).toNat]? = some (dO j) := by simp [hj]
 rw [SF]
 simp only [dO]
 refine ah ?_
 unfold setNextDrawn
 refine ah (x.state ?_)
 dsimp only
 rw [if_neg (by simp)]
 rw [show es[((j : Nat) : Int).toNat]? = some e from he]
 refine av ?_
 refine ah (q9 ho hd (by simp) ?_)
 have h1 := uc (rc (·.setIfInBounds 1 (dO ((i : Int) + 1)))) ho (xP (nz hd _))
 refine av ⟨_, rfl, av (hQ _ ⟨_, h1, ?_, ?_⟩ (mY ..))⟩
 ·rw [Dw]; exact SO
 ·rw [nz hd]; simp [dO]
theorem Pk {I S P : ak} {es : Array (Int × aa)} {ep : Nat} {t : bn} {ys : List Nat} {op : de} {np : Nat} (hh : A.handled = none) (hit : fX s.heap I (.ref P) ys.length S es.size ep) (x : gm s.heap S es ep t) (hP : s.heap.get? P = some op) (Ya : op.data = .seq (ys.map fun (k : Nat) => dO k).toArray np)
  {Q : Option aa -> ae -> Prop} (hQ : ∀ h', Heap.ExtBut I s.heap h' -> Q none { s with heap := h' }) : af (am prog w) A (g7 (.ref I)) Q E s := by
 obtain ⟨o, ho, SO, hd⟩ := id hit
 unfold g7
 refine ah (xM (xN (name := ud "__next__") hit.typeIs SI.slot_next
  (nq SI.slot_next hit.typeIs SI.entry_next ?_ (SI.args_next _))))
 refine ah (av ?_)
 refine ah (xO ho hd ?_)
 dsimp only
 refine ah (x.entries ?_)
 rw [if_neg (by simp)]
 refine ah (rP hP Ya ?_)
 dsimp only
 have SF : ((ys.map fun (k : Nat) => dO k).toArray)[((ys.length : Nat) : Int).toNat]? = none := by simp
 rw [SF]
 dsimp only
 refine ah (q9 ho hd (by simp) ?_)
 have h1 := uc (rc (·.setIfInBounds 0 (dO 0))) ho (xP (nz hd _))
 have d1 := nz hd (·.setIfInBounds 0 (dO 0))
 refine ah (q9 (s := { s with heap := s.heap.update I (rc (·.setIfInBounds 0 (dO 0))) }) h1 d1 (by simp) ?_)
 show af _ _ (newExc (.type "StopIteration") [] >>= _) _ _ _
 refine ah ?_
 simp only [newExc, newTuple]
 refine ah (gZ ?_ (by size_fits))
 refine ah (m := xQ _ _) (xt (a := Value.none) (by first | rfl | (simp only [xQ]; rfl)) ?_)
 refine gZ ?_ (by size_fits)
 simp only [raiseNew]
 refine ah (wpAny_handled ?_)
 rw [show A.in1.handled = none from hh]
 refine ah (av (wpAny_throw ?_))
 refine ah (tW (T := "StopIteration") (b := true) ⟨_, cz _ rfl, rfl⟩ isSubtype_stop ?_)
 exact av (hQ _ ((((mY ..).trans (mY ..)).extBut.push _).push _))
end
end
section
namespace SI
theorem args_iter (a : aa) : argsOk "set_iterator.__iter__" ⟨[a], []⟩ := by
 unfold argsOk; rw [signature?_of (id := "set_iterator.__iter__") (n := ['_', '_', 'r', 'e', 't', 'i', '_', '_']) (o := ['r', 'o', 't', 'a', 'r', 'e', 't', 'i', '_', 't', 'e', 's']) (by kernel_rfl) owner]; kernel_rfl
theorem entry_self : entryFor table "set_iterator.__iter__" = some gX.«dict_keyiterator.__iter__» :=
 entryFor_alias (id' := "dict_keyiterator.__iter__") (by kernel_rfl) rfl (by decide +kernel) (by kernel_rfl)
end SI
section
variable {prog : aG} {w : aE} {A : bm} {E : aa -> ae -> Prop} {s : ae}
theorem AP {I S : ak} {first : aa} {i n ep : Nat} {Q : aa -> ae -> Prop} (hit : fX s.heap I first i S n ep) (h : Q (.ref I) s) : af (am prog w) A (fz (.ref I)) Q E s := by
 refine Q8 hit.typeIs SI.slot_iter (nq SI.slot_iter hit.typeIs SI.entry_self ?_ (SI.args_iter _))
 show af _ _ (ret (.ref I)) _ _ s
 exact av ⟨_, rfl, "set_iterator", _, hit.typeIs, SI.slot_next.lookup, h⟩
theorem fX.other {h h' : ao} {I : ak} {first : aa} {i : Nat} {S : ak} {n ep : Nat} (x : fX h I first i S n ep) (k : ∀ o, h.get? I = some o -> h'.get? I = some o) : fX h' I first i S n ep := by
 obtain ⟨o, ho, r⟩ := x; exact ⟨o, k o ho, r⟩
theorem M3 (hh : A.handled = none) {I S : ak} {es : Array (Int × aa)} {ep : Nat} {t : bn} (Uo : S ≠ I) (SK : t.led = bZ prog w) (SF : es.size = 0 \/ t.plain = false) (hc : bZ prog w = false \/ es.size <= 1) :
  WalksS prog w A I [I, S] [I] (fun a b => b = a) es.size (fun i v => ∃ e, (jm prog w S es ep)[i]? = some e /\ v = e.2) (fun i s => fX s.heap I (.int (slotAt prog w t i) 0) i S es.size ep /\ gm s.heap S es ep t) where
 sub := fun b hb => by simp at hb; simp [hb]
 grefl := fun u' => rfl
 gtrans := fun u' u' u' h1 h2 => h2.trans h1
 frame := fun i s h' tk st u' hk => ⟨st.1.other fun o e => hk I (by simp) o e, st.2.other fun o e => hk S (by simp) o e⟩
 item := fun i s Q E hi st hQ => by
  obtain ⟨e, he⟩ : ∃ e, (jm prog w S es ep)[i]? = some e := ⟨_, bR (by rw [tc]; exact hi)⟩
  refine ND st.1 st.2 Uo SK SF hc he fun h' Vm sb => hQ e.2 _ ⟨e, he, rfl⟩ ⟨Vm, st.2.other fun o q => by rw [sb.2 S Uo]; exact q⟩ ⟨fun b o hb q => by rw [sb.2 b (by simpa using hb)]; exact q, rfl, rfl, rfl, bq _⟩
 done := fun s Q E st hQ => Je hh st.1 st.2 SK SF hc fun h' ex => hQ _ ⟨fun b o hb q => ex b o (by simpa using hb) q, rfl, rfl, rfl, bq _⟩
 self := fun i s Q E st hQ => AP st.1 hQ
theorem OV (hh : A.handled = none) {I S P : ak} {es : Array (Int × aa)} {ep : Nat} {t : bn} {ys : List Nat} (Uo : S ≠ I) (Yb : P ≠ I) (UX : ys.Perm (bQ es.size)) :
  WalksS prog w A I [I, S, P] [I] (fun a b => b = a) es.size (fun i v => ∃ j e, ys[i]? = some j /\ es[j]? = some e /\ v = e.2) (fun i s => fX s.heap I (.ref P) i S es.size ep /\ gm s.heap S es ep t /\ ∃ op np, s.heap.get? P = some op /\ op.data = .seq (ys.map fun (k : Nat) => dO k).toArray np) where
 sub := fun b hb => by simp at hb; simp [hb]
 grefl := fun u' => rfl
 gtrans := fun u' u' u' h1 h2 => h2.trans h1
 frame := fun i s h' tk st u' hk => by
  obtain ⟨S7, Sv, op, np, h1, h2⟩ := st
  exact ⟨S7.other fun o e => hk I (by simp) o e, Sv.other fun o e => hk S (by simp) o e, op, np, hk P (by simp) op h1, h2⟩
 item := fun i s Q E hi st hQ => by
  obtain ⟨S7, Sv, op, np, h1, h2⟩ := st
  have hl : ys.length = es.size := by rw [UX.length_eq]; simp
  obtain ⟨j, hj⟩ : ∃ j, ys[i]? = some j := ⟨_, bR (by rw [hl]; exact hi)⟩
  have hj8 : j < es.size := nh.mp (UX.mem_iff.mp (aT hj))
  obtain ⟨e, he⟩ : ∃ e, es[j]? = some e := ⟨_, lG hj8⟩
  refine K9 S7 Sv h1 h2 hj he fun h' Vm sb => hQ e.2 _ ⟨j, e, hj, he, rfl⟩ ⟨Vm, Sv.other fun o q => by rw [sb.2 S Uo]; exact q, op, np, by rw [sb.2 P Yb]; exact h1, h2⟩ ⟨fun b o hb q => by rw [sb.2 b (by simpa using hb)]; exact q, rfl, rfl, rfl, bq _⟩
 done := fun s Q E st hQ => by
  obtain ⟨S7, Sv, op, np, h1, h2⟩ := st
  have hl : ys.length = es.size := by rw [UX.length_eq]; simp
  have Xf : fX s.heap I (.ref P) ys.length S es.size ep := by rw [hl]; exact S7
  exact Pk hh Xf Sv h1 h2 fun h' ex => hQ _ ⟨fun b o hb q => ex b o (by simpa using hb) q, rfl, rfl, rfl, bq _⟩
 self := fun i s Q E st hQ => AP st.1 hQ
theorem LK {B : bm} (hh : B.handled = none) {S : ak} {es : Array (Int × aa)} {ep : Nat} {t : bn} {keys : List gv} (L : bj prog w s.heap S es ep t keys) (SK : t.led = bZ prog w) (SF : es.size = 0 \/ t.plain = false) {Q : aa -> ae -> Prop}
  (q : ∀ (I : ak) (s2 : ae) (fp : List ak) (P : Nat -> aa -> Prop) (St : Nat -> ae -> Prop), WalksS prog w B I fp [I] (fun a b => b = a) es.size P St -> St 0 s2 -> (∀ b o, s.heap.get? b = some o -> s2.heap.get? b = some o) -> s2.gens = s.gens -> s2.os = s.os →
   (∀ b ∈ fp, b = S \/ s.heap.objs.size <= b) -> s.heap.objs.size <= I -> (∀ acc, ItemsOf P acc es.size -> ∃ out : List (Int × aa), out.Perm es.toList /\ acc.toList = out.map (·.2)) -> Q (.ref I) s2) :
  af (am prog w) A (fz (.ref S)) Q E s := by
 obtain ⟨o, ho, UM, hd⟩ := L.obj
 have UQ := dT ho
 refine D5 L SF (fun hc => ?_) (fun hl h1 ys d p => ?_)
 ·refine q _ _ [s.heap.objs.size, S] _ _ (M3 hh (cB UQ) SK SF hc) ⟨⟨_, cz _ rfl, rfl, ?_⟩, ⟨o, br _ ho, hd, L.fits⟩⟩ (fun b o e => br _ e) rfl rfl (fun b hb => ?_) (bq _) fun acc ha => ?_
  ·have : slotAt prog w t 0 = 0 := by unfold slotAt; simp
   rw [this]; rfl
  ·simp only [aP, gb, or_false] at hb
   rcases hb with rfl | rfl
   ·exact .inr (bq _)
   ·exact .inl rfl
  ·refine ⟨jm prog w S es ep, ?_, ?_⟩
   ·unfold jm; split
    ·exact .refl _
    ·exact Bf _ _
   ·refine oX fun i => ?_
    rw [cM, fy]
    by_cases hi : i < es.size
    ·obtain ⟨v, hv⟩ : ∃ v, acc[i]? = some v := ⟨_, lG (by rw [ha.1]; exact hi)⟩
     obtain ⟨e, h1, rfl⟩ := ha.2 i v hv
     rw [hv, h1]; rfl
    ·rw [Dx (by rw [ha.1]; trivial), mQ (by rw [tc]; trivial)]; rfl
 ·have UX : ys.length = es.size := by rw [p.length_eq]; simp
  refine q _ _ [s.heap.objs.size + 1, S, s.heap.objs.size] _ _ (OV hh (ys := ys) (cB (j6 UQ)) (cB (j7 _)) p) ⟨⟨_, by rw [<-gc]; exact cz _ rfl, rfl, rfl⟩, ⟨o, br _ (br _ ho), hd, L.fits⟩, _, 0, br _ (cz _ rfl), rfl⟩ (fun b o e => br _ (br _ e)) rfl rfl (fun b hb => ?_) (io _) fun acc ha => ?_
  ·simp only [aP, gb, or_false] at hb
   rcases hb with rfl | rfl | rfl
   ·exact .inr (io _)
   ·exact .inl rfl
   ·exact .inr (bq _)
  ·refine ⟨ys.map (fun j => (es[j]?).getD (0, .none)), ?_, ?_⟩
   ·refine (p.map _).trans (List.Perm.of_eq ?_)
    refine oX fun i => ?_
    rw [cM, fy (xs := es)]
    by_cases hi : i < es.size
    ·rw [Qv hi, dN, lG hi]; rfl
    ·rw [mQ (by simp; trivial), Dx (by trivial)]; rfl
   ·refine oX fun i => ?_
    rw [cM, cM, fy]
    by_cases hi : i < es.size
    ·obtain ⟨v, hv⟩ : ∃ v, acc[i]? = some v := ⟨_, lG (by rw [ha.1]; exact hi)⟩
     obtain ⟨j, e, h1, h2, rfl⟩ := ha.2 i v hv
     rw [hv, h1]; simp [h2]
    ·rw [Dx (by rw [ha.1]; trivial), mQ (by rw [UX]; trivial)]; rfl
end
end
section
section
variable {prog : aG} {w : aE} {A : bm} {E : aa -> ae -> Prop} {s : ae}
theorem bj.heap {s' : ae} {S : ak} {es : Array (Int × aa)} {ep : Nat} {t : bn} {keys : List gv} {h : ao} (L : bj prog w h S es ep t keys) (k : ∀ b o, h.get? b = some o -> s'.heap.get? b = some o) : bj prog w s'.heap S es ep t keys := L.keep (k S) fun a o e u' => k a o e
theorem MD {S : ak} {es : Array (Int × aa)} {ep : Nat} {t : bn} {keys : List gv} {Q : List aa -> ae -> Prop} (hh : A.handled = none) (L : bj prog w s.heap S es ep t keys) (SK : t.led = bZ prog w) (SF : es.size = 0 \/ t.plain = false)
  (h : ∀ (out : List (Int × aa)) (s' : ae), out.Perm es.toList -> (∀ b o, s.heap.get? b = some o -> s'.heap.get? b = some o) -> s'.gens = s.gens -> s'.os = s.os -> Q (out.map (·.2)) s') :
  af (am prog w) A (xE (.ref S)) Q E s := by
 have hT := L.typeIs
 have UQ : S < s.heap.objs.size := by obtain ⟨o, ho, _⟩ := hT; exact dT ho
 have Y7 : s.heap.objs.size ≠ S := xj UQ
 unfold xE
 refine ah (Dg (nr QO ?_))
 rw [oV QP _]
 show af _ A.in1 (tF [] >>= fun l => again (.builtin "list.__iadd__" ⟨[l, .ref S], []⟩)) _ _ s
 refine ah (gZ ?_)
 refine av ⟨qX xF _, nr QQ ?_⟩
 rw [oV xF _]
 have Un : (s.heap.push { cls := .type "list", data := .seq ([] : List aa).toArray }).get? s.heap.objs.size = some { cls := .type "list", data := .seq ([] : List aa).toArray } := cz _ rfl
 have h1 : xG (.ref s.heap.objs.size) (.ref S) = false := by simp [xG, Y7]
 have k1 : ∀ b o, s.heap.get? b = some o -> (s.heap.push { cls := .type "list", data := .seq ([] : List aa).toArray }).get? b = some o := fun b o e => br _ e
 have L1 := bj.heap (s' := { s with heap := s.heap.push { cls := .type "list", data := .seq ([] : List aa).toArray } }) L k1
 have X7 := L1.typeIs
 show af _ A.in1 (xH (.ref s.heap.objs.size) (.ref S) (.ref s.heap.objs.size)) _ _ _
 unfold xH
 refine ah (tZ X7 ?_)
 rw [if_neg (by rw [h1]; decide)]
 refine ah (LK (B := A.in1) hh L1 SK SF fun I s2 fp P St W cj k2 g2 o2 hfp hI Vh => ?_)
 have Wa : (s.heap.push { cls := .type "list", data := .seq ([] : List aa).toArray }).objs.size = s.heap.objs.size + 1 := qW _ _
 refine ah (dS ?_)
 have YD : ∀ b o, s.heap.get? b = some o -> s2.heap.get? b = some o := fun b o e => k2 b o (k1 b o e)
 have L2 := bj.heap (s' := s2) L YD
 have Vo := L2.typeIs
 have Tv : s2.heap.get? s.heap.objs.size = some { cls := .type "list", data := .seq ([] : List aa).toArray } := k2 _ _ Un
 show af _ A.in1 (xI (.ref S)) _ _ s2
 unfold xI
 refine ah (Di Vo PySem.F.slot_set_len.lookup ?_)
 generalize dJ : ("set.__len__" : String) = id0
 wp_delta
 rw [show splitId id0 = some ("set", "__len__") from by subst dJ; decide +kernel]
 subst dJ
 refine ah (tW (b := true) Vo (by rw [xJ]; kernel_rfl) ?_)
 show af _ A.in1 (oL (.ref S) >>= _) _ _ s2
 refine ah (tZ Vo ?_)
 refine av ?_
 rw [if_pos (by decide)]
 refine ah (xA ?_)
 show af _ A.in1 ((xK (.ref s.heap.objs.size) (·.push .none) >>= fun u' => xK (.ref s.heap.objs.size) (·.pop)) >>= _) _ _ s2
 refine ah (ah (oP Tv rfl ?_ (dZ _) (by show 1 <= fv + 1; trivial)))
 have Tu := oQ (c := "list") Tv (fun xs => xs.push Value.none)
 refine oP Tu rfl ?_ (by show 1 <= fv; rw [cQ]; trivial) (by show 0 <= fv + 1; trivial)
 have Tt := oQ (c := "list") Tu (fun xs => xs.pop)
 generalize hh4 : (s2.heap.update s.heap.objs.size (eS fun xs => xs.push Value.none)).update s.heap.objs.size (eS fun xs => xs.pop) = h4 at Tt ⊢
 have k4 : ∀ b o, b ≠ s.heap.objs.size -> s2.heap.get? b = some o -> h4.get? b = some o := fun b o n e => by
  rw [<-hh4, oU _ _ _ _ n, oU _ _ _ _ n]; exact e
 have Vq : s.heap.objs.size ∉ fp := fun m => by
  rcases hfp _ m with q | q
  ·exact Y7 q
  ·rw [Wa] at q; trivial
 have SM := L.few
 refine av ⟨qX QR _, QS W (by rw [cQ]; trivial) s.heap.objs.size Vq _ es.size 0 _ #[] _ rfl (dZ _) (W.frame 0 s2 h4 s2.toks cj (bq _) fun b hb o e => k4 b o (fun q => Vq (q ▸ hb)) e) Tt (QT _) fun s' Tl c' UJ X9 Ts => ?_⟩
 show af _ A (load s.heap.objs.size >>= _) _ _ s'
 refine ah (xo X9 ?_)
 refine av ?_
 obtain ⟨out, p, e⟩ := Vh Tl Ts
 have := h out s' p (fun b o eb => ?_) (UJ.gens.trans g2) (UJ.os.trans o2)
 ·rw [<-e] at this; exact this
 ·have := dT eb
  refine UJ.heap b o ?_ (k4 b o (cB this) (YD b o eb))
  simp only [aP, gb, or_false, not_or]
  refine ⟨cB this, cB (cH this ?_)⟩
  rw [Wa] at hI; trivial
end
end
section
noncomputable def jL (v : V) : gv := (oT v fun l => rZ l fun a b c => oI a fun x => oS b fun y => oI c fun k => some (nS x y k)).getD []
theorem GK {x x' k k' : Int} {y y' : ac} {G : Prop} (e : nS x y k = nS x' y' k') (g : x = x' -> y = y' -> k = k' -> G) : G := by
 obtain ⟨q1, e⟩ := fw e
 obtain ⟨q2, e⟩ := fw e
 obtain ⟨q3, _⟩ := fw e
 exact g (Rg q1) (Sum.inr.inj q2) (Rg q3)
theorem BZ {v : V} (h : v.isLit = true) : ∃ x y k, v = .tup [.int x, .str y, .int k] := rN h fun x y k u' e u' => ⟨x, y, k, e⟩
theorem Pu {a b : V} (ha : a.isLit = true) (hb : b.isLit = true) (e : jL a = jL b) : a = b := by
 obtain ⟨x, y, k, ea⟩ := BZ ha
 obtain ⟨x', y', k', eb⟩ := BZ hb
 rw [ea, eb] at e ⊢
 exact GK e fun e1 e2 e3 => by rw [e1, e2, e3]
theorem uV : ∀ (l : List V) (v : V), v ∈ fc l ↔ v ∈ l := by
 intro l
 induction l with
 | nil =>
  intro v
  simp [mh, lR]
 | cons x r iH =>
  intro v
  have ih := iH v
  simp only [mh, lR]
  by_cases c : r.contains x = true
  ·rw [if_pos c, ih]
   have := Rh.mp c
   simp only [aP, iff_or_self]
   rintro rfl; exact this
  ·rw [if_neg c, aP, aP, ih]
theorem Ow : ∀ (l : List V), (fc l).Nodup := by
 intro l
 induction l with
 | nil =>
  simp [mh, lR]
 | cons x r iH =>
  simp only [mh, lR]
  by_cases c : r.contains x = true
  ·rw [if_pos c]; exact iH
  ·rw [if_neg c, dh]
   exact ⟨fun m => c (Rh.mpr ((uV r x).mp m)), iH⟩
theorem NC {l l' : List V} (h : l.Nodup) (h' : l'.Nodup) (e : ∀ v, v ∈ l ↔ v ∈ l') : l.Perm l' := (List.perm_ext_iff_of_nodup h h').mpr e
section
variable {prog : aG} {w : aE} {cls : aZ} {RY : ao}
theorem VR.lit {σ : Tk} {h : ao} {v : V} {u : aa} (r : VR σ h v u) (hv : v.isLit = true) : iO h v u /\ d5 prog w h (jL v) u := by
 obtain ⟨x, y, k, c, a, o, n, t1, t2, t3, ev, _, eu, ho, hc, hd⟩ := pd hv r
 rw [ev, eu]
 have : iO h (.tup [.int x, .str y, .int k]) (.ref a) := ⟨x, y, k, a, o, n, t1, t2, t3, rfl, rfl, ho, hc, hd⟩
 exact ⟨this, x, y, k, rfl, this⟩
theorem d5.uniq {h : ao} {k1 k2 : gv} {u : aa} (a : d5 prog w h k1 u) (b : d5 prog w h k2 u) : k1 = k2 := by
 obtain ⟨x, y, k, ek, x', y', k', a1, o, n, t1, t2, t3, e1, eu, ho, hc, hd⟩ := a
 obtain ⟨X, Y, K, eK, X', Y', K', a2, o2, n2, s1, s2, s3, e2, e3, TX, UO, U1⟩ := b
 rw [<-Qy (eu.symm.trans e3)] at TX
 rw [<-aC (ho.symm.trans TX)] at U1
 have q := congrArg Array.toList (Data.seq.inj (hd.symm.trans U1)).1
 obtain ⟨q1, q⟩ := fw q
 obtain ⟨q2, q⟩ := fw q
 obtain ⟨q3, _⟩ := fw q
 obtain ⟨a1, r⟩ := fw (V.tup.inj e1)
 obtain ⟨a2, r⟩ := fw r
 obtain ⟨a3, _⟩ := fw r
 obtain ⟨b1, r⟩ := fw (V.tup.inj e2)
 obtain ⟨b2, r⟩ := fw r
 obtain ⟨b3, _⟩ := fw r
 rw [ek, eK, V.int.inj a1, V.str.inj a2, V.int.inj a3, V.int.inj b1, V.str.inj b2, V.int.inj b3, (Ri q1).1, (Value.str.inj q2).1, (Ri q3).1]
variable {A : bm} {s : ae} {σ : Tk} {H H' : AH}
theorem yZ {h : ao} : ∀ {l : List V} {vs : List aa}, an σ h l vs -> ∀ {i : Nat} {u : aa}, vs[i]? = some u -> ∃ v, l[i]? = some v /\ VR σ h v u := by
 intro l
 induction l with
 | nil =>
  intro vs r i u e
  simp only [an] at r; subst r; simp at e
 | cons x l iH =>
  intro vs r i u e
  simp only [an] at r
  obtain ⟨v, q, rfl, r1, r2⟩ := r
  cases i with
  | zero => simp at e; subst e; exact ⟨x, rfl, r1⟩
  | succ i => simp at e; exact iH r2 e
theorem Gl {h : ao} {f : Int × aa -> V} : ∀ {out : List (Int × aa)}, (∀ e ∈ out, VR σ h (f e) e.2) -> an σ h (out.map f) (out.map (·.2)) := by
 intro out
 induction out with
 | nil =>
  intro _
  simp only [gE, an]
 | cons e r iH =>
  intro k
  simp only [cA, an]
  exact ⟨_, _, rfl, k e aL, iH fun z hz => k z (aQ _ hz)⟩
theorem Li {v : V} {u : aa} {z : V} {Q : aa -> ae -> Prop} {E : aa -> ae -> Prop} (rm : aR A 0) (S : aq prog w cls RY σ H s.heap) (r : VR σ s.heap v u) (e : dq H .sortedSet [v] = some (z, H'))
  (h : ∀ RZ s' v, Nx prog w cls RY σ s RZ H' s' -> VR RZ s'.heap z v -> Q v s') :
  af (am prog w) A (call (.type "set") [u]) (fun r s1 => af (am prog w) A (call (.builtin "sorted") [r]) Q E s1) E s := by
 replace e : ((bK H v).bind fun l => if l.all V.isLit && decide (l.length < 5) then some (V.lst (cq (fc l)), H) else none) = some (z, H') := e
 refine bv e fun l hl e => bT e fun hc e => fQ e fun ez eH => ?_
 rw [<-ez, <-eH] at h
 clear e ez eH
 obtain ⟨Tr, h5⟩ := cS hc
 have h5 := of_decide_eq_true h5
 have Tr : ∀ v ∈ l, v.isLit = true := bJ.mp Tr
 obtain ⟨a, us, rfl, hls, _, rr⟩ := jT S r hl
 have Sx : l.length = us.size := by have := rr.length; simpa using this
 have lits : nC prog w s.heap us (l.map jL) := fun i x hx => by
  obtain ⟨v0, e1, r1⟩ := yZ rr (i := i) (u := x) (by rw [fy]; exact hx)
  exact ⟨jL v0, by rw [cM, e1]; rfl, (VR.lit r1 (Tr v0 (aT e1))).2⟩
 refine Kr rm.handled (by have := rm.units; trivial) hls lits (by trivial) fun s1 es ep t keys L nd mem led pl ii keep g1 o1 d1 => ?_
 have N1 : Nx prog w cls RY σ s σ H s1 := Nx.of S keep g1 o1
 refine Da Db Dc Dd (De _) ?_
 unfold gX.«sorted»
 refine ah (m := Df "sorted" 1 1 _) (av ?_)
 refine ah (MD (A := A.in1) rm.handled L led pl fun out s3 pm k3 g3 o3 => ?_)
 have few := L.few
 have Wi : out.length = es.size := by rw [pm.length_eq]; simp
 have N3 : Nx prog w cls RY σ s σ H s3 := Nx.of S (fun b o e => k3 b o (keep b o e)) (g3.trans g1) (o3.trans o1)
 have S3 := N3.sim
 have ex : ∀ q : Int × aa, ∃ v : V, q ∈ es.toList -> v ∈ l /\ VR σ s.heap v q.2 := fun q => by
  by_cases hq : q ∈ es.toList
  ·obtain ⟨i, hi⟩ := ju.mp (ii q hq)
   obtain ⟨v0, e1, r1⟩ := yZ rr hi
   exact ⟨v0, fun u' => ⟨aT e1, r1⟩⟩
  ·exact ⟨.none, fun m => absurd m hq⟩
 obtain ⟨f, hf⟩ : ∃ f : Int × aa -> V, ∀ q, q ∈ es.toList -> f q ∈ l /\ VR σ s.heap (f q) q.2 := ⟨fun q => PV (ex q), fun q => PY (ex q)⟩
 have UZ : (es.toList.map f).map jL = keys := by
  refine oX fun i => ?_
  rw [cM, cM]
  by_cases hi : i < es.size
  ·have e0 : es.toList[i]? = some es[i] := by rw [fy]; exact lG hi
   obtain ⟨key, q1, q2, _⟩ := L.ents i es[i] (lG hi)
   rw [e0, q1]
   obtain ⟨m1, m2⟩ := hf es[i] (aT e0)
   have m3 := (VR.lit (prog := prog) (w := w) m2 (Tr _ m1)).2
   have m4 := m3.keep (h' := s1.heap) fun a o ho u' => keep a o ho
   simp only [dN]
   rw [d5.uniq m4 q2]
  ·rw [mQ (by simp; trivial), mQ (by rw [L.len]; trivial)]; rfl
 have XO : (es.toList.map f).Nodup := by
  have : ((es.toList.map f).map jL).Nodup := by rw [UZ]; exact nd
  exact (C6.mp this).imp fun h e => h (congrArg jL e)
 have SU : (out.map f).Perm (fc l) := by
  refine (pm.map f).trans (NC XO (Ow l) fun v => ?_)
  rw [uV]
  constructor
  ·intro m
   obtain ⟨q, hq, rfl⟩ := bg.mp m
   exact (hf q hq).1
  ·intro m
   have : jL v ∈ keys := (mem _).mpr (by rw [tH (by simp; trivial)]; exact bg.mpr ⟨v, m, rfl⟩)
   rw [<-UZ] at this
   obtain ⟨v', m', e'⟩ := bg.mp this
   obtain ⟨q, hq, rfl⟩ := bg.mp m'
   rw [<-Pu (Tr _ (hf q hq).1) (Tr _ m) e']
   exact m'
 have Ud : ∀ v ∈ out.map f, v.isLit = true := fun v m => by
  obtain ⟨q, hq, rfl⟩ := bg.mp m
  exact Tr _ (hf q (pm.mem_iff.mp hq)).1
 have Wf : cq (out.map f) = cq (fc l) :=
  rC .lit (fun y hy => Ud y ((fW _).mem_iff.mp hy)) ((fW _).trans (SU.trans (fW _).symm)) (mj .lit Ud) (mj .lit fun y hy => Tr y ((uV l y).mp hy))
 refine ah (xD ?_ (by rw [cQ]; simp; trivial))
 have hv : an σ s3.heap (out.map f) (out.map (·.2)) := an.grow N3.grow (Gl fun q hq => (hf q (pm.mem_iff.mp hq)).2)
 have hD : s3.heap.get? s3.heap.objs.size = none := by
  cases e : s3.heap.get? s3.heap.objs.size with
  | none => rfl
  | some o => exact absurd (dT e) (eR _)
 have Uu : (s3.heap.push (cC "list" (out.map (·.2)).toArray 0)).get? s3.heap.objs.size = some (cC "list" (out.map (·.2)).toArray 0) := cz _ rfl
 refine ah (dS (cZ (vZ .lit (A := A) (t := s3.toks) (Q := Q) rm S3 (fun y hy => Ud y hy) (by simp; trivial) hv (fun b o e => br _ e) hD Uu fun RZ s' v N r => ?_) (fun u' s' hq => ?_) fun u' u' x => x))
 ·rw [Wf] at r
  exact h RZ s' v (N3.trans N) r
 ·exact av ⟨_, rfl, hq⟩
end
end
section
theorem FX {prog : aG} {w : aE} {cls : aZ} {RY : ao} : nW prog w cls RY :=
 ⟨fun A σ s H vs R8 z H' rm S r e => La rm S r e, fun A σ s H v u z H' Q E rm S r e h => Li rm S r e h⟩
theorem IR {prog : aG} {w : aE} {cls : aZ} {RY : ao} {P : cn} (W : Wd P cls RY) (n : Nat) : kW prog w cls RY P n := DQ W FX HU n
end
section
noncomputable def fk : ac := ⟨#[60, 61]⟩
noncomputable def fq : ac := ⟨#[62, 61]⟩
noncomputable def fR : ac := ⟨#[61]⟩
noncomputable def gW : ac := ⟨#[33, 61]⟩
noncomputable def IS : S := .ite (.cmp (.le) (.loc 1) (.loc 3)) [.ret (some (.bi (.max) [.loc 2, .loc 1]))] []
noncomputable def Bo : List S := [IS]
noncomputable def M8 : S := .for_ (.names [2, 3]) (.of (.loc 0)) Bo
noncomputable def Fj : S := .ret (some (.const (.none)))
noncomputable def b0 : List S := [M8, Fj]
noncomputable def Mq : S := .ret (some (.cmp (.eq) (.fn 0 [.loc 0, .loc 1]) (.loc 1)))
noncomputable def b1 : List S := [Mq]
noncomputable def Gq : S := .ret (some (.bi (.tuple) [.comp false (.tup [.loc 3, .bi (.min) [.loc 4, .loc 1]]) [3, 4] false (.of (.loc 0)) [.cmp (.le) (.loc 3) (.loc 1)] 2 3]))
noncomputable def b2 : List S := [Gq]
noncomputable def Gu : S := .ret (some (.bi (.tuple) [.comp false (.tup [.bi (.max) [.loc 3, .loc 1], .loc 4]) [3, 4] false (.of (.loc 0)) [.cmp (.ge) (.loc 4) (.loc 1)] 2 3]))
noncomputable def b3 : List S := [Gu]
noncomputable def OR : S := .ret (some (.bin (.add) (.fn 2 [.loc 0, .bin (.sub) (.loc 1) (.const (.int 1))]) (.fn 3 [.loc 0, .bin (.add) (.loc 1) (.const (.int 1))])))
noncomputable def b4 : List S := [OR]
noncomputable def BG : S := .assignTup [.name 2, .name 3, .name 4] [.list true [], .const (.int 0), .const (.int 0)]
noncomputable def JY : E := (.bop true [.cmp (.lt) (.loc 3) (.bi (.len) [.loc 0]), .cmp (.lt) (.loc 4) (.bi (.len) [.loc 1])])
noncomputable def FK : S := .assignTup [.name 5, .name 6] [.bi (.max) [.sub (.sub (.loc 0) (.loc 3)) (.const (.int 0)), .sub (.sub (.loc 1) (.loc 4)) (.const (.int 0))], .bi (.min) [.sub (.sub (.loc 0) (.loc 3)) (.const (.int 1)), .sub (.sub (.loc 1) (.loc 4)) (.const (.int 1))]]
noncomputable def FD : S := .ite (.cmp (.le) (.loc 5) (.loc 6)) [.expr (.meth (.loc 2) 0 [.tup [.loc 5, .loc 6]])] []
noncomputable def At : S := .ite (.cmp (.lt) (.sub (.sub (.loc 0) (.loc 3)) (.const (.int 1))) (.sub (.sub (.loc 1) (.loc 4)) (.const (.int 1)))) [.assign (.name 3) (.bin (.add) (.loc 3) (.const (.int 1)))] [.assign (.name 4) (.bin (.add) (.loc 4) (.const (.int 1)))]
noncomputable def Pv : List S := [FK, FD, At]
noncomputable def uD : S := .whil JY Pv
noncomputable def D3 : S := .ret (some (.bi (.tuple) [.loc 2]))
noncomputable def b5 : List S := [BG, uD, D3]
noncomputable def Jm : S := .assign (.names [1, 2, 3]) (.loc 0)
noncomputable def MN : S := .ite (.cmp (.eq) (.loc 2) (.const (.str fk))) [.ret (some (.tup [.loc 1, .const (.str fq), .bin (.add) (.loc 3) (.const (.int 1))]))] []
noncomputable def Oq : S := .ite (.cmp (.eq) (.loc 2) (.const (.str fq))) [.ret (some (.tup [.loc 1, .const (.str fk), .bin (.sub) (.loc 3) (.const (.int 1))]))] []
noncomputable def IU : S := .ret (some (.ite (.cmp (.eq) (.loc 2) (.const (.str fR))) (.tup [.loc 1, .const (.str gW), .loc 3]) (.tup [.loc 1, .const (.str fR), .loc 3])))
noncomputable def b6 : List S := [Jm, MN, Oq, IU]
noncomputable def Me : S := .assignTup [.name 2, .name 3] [.sub (.loc 0) (.const (.int 1)), .sub (.loc 0) (.const (.int 2))]
noncomputable def Ls : S := .ite (.cmp (.eq) (.loc 2) (.const (.str fk))) [.ret (some (.fn 2 [.loc 1, .loc 3]))] []
noncomputable def MY : S := .ite (.cmp (.eq) (.loc 2) (.const (.str fq))) [.ret (some (.fn 3 [.loc 1, .loc 3]))] []
noncomputable def Ln : S := .ret (some (.ite (.cmp (.eq) (.loc 2) (.const (.str fR))) (.fn 5 [.loc 1, .tup [.tup [.loc 3, .loc 3]]]) (.fn 4 [.loc 1, .loc 3])))
noncomputable def b7 : List S := [Me, Ls, MY, Ln]
noncomputable def Mr : S := .assign (.name 2) (.fn 7 [.loc 0, .loc 1])
noncomputable def Nm : S := .ite (.cmp (.eq) (.loc 2) (.loc 1)) [.ret (some (.const (.int 1)))] []
noncomputable def E9 : S := .ret (some (.ite (.cmp (.eq) (.loc 2) (.tup [])) (.neg (.const (.int 1))) (.const (.int 0))))
noncomputable def b8 : List S := [Mr, Nm, E9]
noncomputable def IF : S := .assign (.name 2) (.sub (.loc 1) (.const (.int 0)))
noncomputable def MP : S := .ite (.cmp (.eq) (.fn 8 [.loc 1, .meth (.loc 0) 17 [.loc 2]]) (.const (.int 1))) [.ret (some (.neg (.const (.int 1))))] []
noncomputable def M5 : S := .assign (.name 4) (.sub (.attr (.loc 0) 2) (.loc 3))
noncomputable def E4 : S := .ite (.bop true [.cmp (.eq) (.sub (.loc 4) (.const (.int 0))) (.loc 2), .cmp (.eq) (.fn 8 [.loc 1, .fn 7 [.sub (.loc 4) (.const (.int 2)), .sub (.loc 4) (.const (.int 1))]]) (.const (.int 1))]) [.ret (some (.loc 3))] []
noncomputable def B6 : List S := [M5, E4]
noncomputable def Gg : S := .for_ (.name 3) (.range1 (.bi (.len) [.attr (.loc 0) 2])) B6
noncomputable def JX : S := .bad
noncomputable def b9 : List S := [IF, MP, Gg, JX]
noncomputable def y7 : S := .assignTup [.name 2, .name 3] [.sub (.loc 0) (.const (.int 0)), .sub (.loc 0) (.const (.int 1))]
noncomputable def Ae : S := .assign (.sub (.loc 0) (.const (.int 1))) (.bin (.add) (.loc 3) (.const (.int 1)))
noncomputable def zS : S := .assign (.name 4) (.bin (.fdiv) (.loc 3) (.bi (.max) [.const (.int 1), .bi (.len) [.loc 2]]))
noncomputable def yb : S := .assign (.name 5) (.ite (.cmp (.ne) (.loc 2) (.list false [])) (.bin (.fmod) (.sub (.loc 2) (.bin (.fmod) (.loc 3) (.bi (.len) [.loc 2]))) (.const (.int 1000003))) (.const (.int 1)))
noncomputable def uM : S := .ret (some (.bin (.fmod) (.bin (.add) (.loc 5) (.bin (.mul) (.loc 4) (.bin (.add) (.const (.int 3)) (.bin (.fmod) (.loc 3) (.const (.int 5)))))) (.loc 1)))
noncomputable def b10 : List S := [y7, Ae, zS, yb, uM]
noncomputable def BX : S := .ret (some (.tup [.fn 10 [.loc 0, .const (.int 3)], .sub (.tup [.const (.str fk), .const (.str fq), .const (.str fR), .const (.str gW)]) (.fn 10 [.loc 0, .const (.int 4)]), .fn 10 [.loc 0, .const (.int 4)]]))
noncomputable def b11 : List S := [BX]
noncomputable def Bj : S := .assign (.name 1) (.comp false (.fn 11 [.loc 0]) [3] true (.range1 (.bin (.add) (.const (.int 2)) (.fn 10 [.loc 0, .const (.int 3)]))) [] 2 2)
noncomputable def BI : S := .assign (.name 1) (.bi (.sortedSet) [.loc 1])
noncomputable def Al : S := .ret (some (.ite (.cmp (.gt) (.bi (.len) [.loc 1]) (.const (.int 1))) (.bi (.tuple) [.loc 1]) (.bi (.tuple) [.bi (.sorted) [.list false [.tup [.const (.int 0), .const (.str fk), .const (.int 1)], .tup [.const (.int 1), .const (.str fq), .const (.int 2)]]]])))
noncomputable def b12 : List S := [Bj, BI, Al]
noncomputable def Kq : S := .assignTup [.name 2, .name 3] [.sub (.loc 0) (.const (.int 1)), .sub (.loc 0) (.const (.int 2))]
noncomputable def OT : S := .ret (some (.dictSel [fk, fq, fR, gW] [.cmp (.le) (.loc 1) (.loc 3), .cmp (.ge) (.loc 1) (.loc 3), .cmp (.eq) (.loc 1) (.loc 3), .cmp (.ne) (.loc 1) (.loc 3)] (.loc 2)))
noncomputable def b13 : List S := [Kq, OT]
noncomputable def GM : S := .ret (some (.comp false (.loc 3) [3] true (.of (.sub (.loc 1) (.sub (.loc 0) (.const (.int 0))))) [.fn 13 [.loc 0, .loc 3]] 2 2))
noncomputable def b14 : List S := [GM]
noncomputable def ER : S := .ret (some (.comp false (.comp false (.loc 4) [4] true (.range1 (.const (.int 4))) [.meth (.loc 0) 18 [.loc 2, .loc 4]] 3 2) [2] true (.range1 (.const (.int 3))) [] 1 2))
noncomputable def b15 : List S := [ER]
noncomputable def OI : S := .assign (.name 2) (.list true [.list false [.const (.int 0), .const (.int 1), .const (.int 2), .const (.int 3)], .list false [.const (.int 0), .const (.int 1), .const (.int 2), .const (.int 3)], .list false [.const (.int 0), .const (.int 1), .const (.int 2), .const (.int 3)]])
noncomputable def G7 : S := .ite (.cmp (.eq) (.fn 14 [.loc 0, .loc 2]) (.list false [])) [.ret (some (.neg (.const (.int 1))))] []
noncomputable def K8 : S := .assign (.sub (.loc 2) (.sub (.loc 4) (.const (.int 0)))) (.fn 14 [.sub (.loc 4) (.const (.int 2)), .loc 2])
noncomputable def Ip : S := .ite (.cmp (.eq) (.fn 14 [.loc 0, .loc 2]) (.list false [])) [.ret (some (.loc 3))] []
noncomputable def zl : List S := [K8, Ip]
noncomputable def GH : S := .for_ (.names [3, 4]) (.enum (.attr (.loc 1) 2)) zl
noncomputable def zQ : S := .ret (some (.bi (.len) [.attr (.loc 1) 2]))
noncomputable def b16 : List S := [OI, G7, GH, zQ]
noncomputable def Gb : S := .assign (.name 3) (.fn 15 [.loc 0])
noncomputable def EI : S := .assign (.name 6) (.sub (.attr (.loc 1) 8) (.loc 4))
noncomputable def EW : S := .ite (.cmp (.ne) (.bi (.sorted) [.loc 6]) (.bi (.list) [.loc 5])) [.ret (some (.const (.bool false)))] []
noncomputable def Jx : S := .assign (.name 7) (.list true [.sub (.sub (.loc 6) (.const (.int 0))) (.const (.int 0)), .sub (.sub (.loc 6) (.const (.int 1))) (.const (.int 0))])
noncomputable def Ez : S := .ite (.cmp (.ne) (.comp false (.loc 12) [12] true (.range1 (.const (.int 3))) [.cmp (.ne) (.cmp (.isin) (.loc 4) (.meth (.attr (.loc 1) 11) 5 [.loc 12, .list false []])) (.cmp (.isin) (.loc 12) (.loc 7))] 11 2) (.list false [])) [.ret (some (.const (.bool false)))] []
noncomputable def OJ : S := .ite (.cmp (.eq) (.fn 14 [.sub (.loc 6) (.loc 8), .loc 3]) (.list false [])) [.assign (.name 10) (.comp false (.loc 12) [12] true (.of (.slice false (.loc 6) (some (.const (.int 2))) none)) [.cmp (.ne) (.fn 14 [.loc 12, .loc 3]) (.list false [])] 11 2), .ite (.bop false [.cmp (.ne) (.loc 10) (.list false []), .cmp (.ne) (.fn 14 [.sub (.loc 6) (.loc 9), .loc 3]) (.sub (.loc 3) (.sub (.sub (.loc 6) (.loc 9)) (.const (.int 0))))]) [.ret (some (.const (.bool false)))] []] []
noncomputable def ym : List S := [OJ]
noncomputable def IV : S := .for_ (.names [8, 9]) (.of (.tup [.tup [.const (.int 0), .const (.int 1)], .tup [.const (.int 1), .const (.int 0)]])) ym
noncomputable def uC : List S := [EI, EW, Jx, Ez, IV]
noncomputable def JB : S := .for_ (.names [4, 5]) (.enum (.loc 2)) uC
noncomputable def A0 : S := .ret (some (.const (.bool true)))
noncomputable def b17 : List S := [Gb, JB, A0]
noncomputable def GZ : S := .assignTup [.name 2, .name 3, .name 4] [.new 0, .fn 12 [.loc 0], .fn 15 [.loc 1]]
noncomputable def Ja : S := .ite (.cmp (.ne) (.meth (.loc 2) 6 [.loc 3]) (.const (.int 0))) [.ret (some (.const (.bool false)))] []
noncomputable def Ky : S := .expr (.meth (.loc 2) 9 [.loc 1, .const (.int 0)])
noncomputable def D6 : S := .assign (.name 5) (.comp false (.loc 12) [11, 12] false (.of (.bi (.sorted) [.comp false (.tup [.neg (.fn 16 [.loc 11, .loc 1]), .loc 11]) [11] true (.of (.loc 3)) [] 10 2])) [] 10 3)
noncomputable def Mu : S := .ite (.cmp (.ne) (.sub (.attr (.loc 2) 8) (.const (.int 0))) (.loc 5)) [.ret (some (.const (.bool false)))] []
noncomputable def wq : S := .expr (.meth (.loc 1) 24 [])
noncomputable def wC : S := .assignTup [.name 6, .name 7] [.comp false (.loc 11) [11] true (.of (.loc 3)) [.cmp (.ne) (.fn 14 [.loc 11, .loc 4]) (.list false [])] 10 2, .bi (.len) [.attr (.loc 1) 2]]
noncomputable def v8 : S := .assign (.name 8) (.meth (.loc 2) 12 [.loc 1, .const (.int 0)])
noncomputable def oe : S := .assign (.name 9) (.cmp (.eq) (.loc 8) (.cmp (.ne) (.loc 6) (.list false [])))
noncomputable def n7 : S := .ite (.cmp (.eq) (.loc 6) (.list false [])) [.assign (.name 9) (.bop true [.loc 9, .attr (.loc 1) 6, .cmp (.eq) (.bi (.len) [.attr (.loc 1) 7]) (.bi (.len) [.loc 3])])] [.ite (.bop true [.cmp (.eq) (.bi (.len) [.loc 6]) (.const (.int 1)), .cmp (.ne) (.fn 14 [.sub (.loc 6) (.const (.int 0)), .loc 4]) (.sub (.loc 4) (.sub (.sub (.loc 6) (.const (.int 0))) (.const (.int 0))))]) [.assign (.name 9) (.bop true [.loc 9, .cmp (.eq) (.bi (.len) [.attr (.loc 1) 2]) (.bin (.add) (.loc 7) (.const (.int 1))), .cmp (.eq) (.sub (.sub (.attr (.loc 1) 2) (.neg (.const (.int 1)))) (.const (.int 2))) (.sub (.loc 6) (.const (.int 0)))])] [.assign (.name 9) (.bop true [.loc 9, .cmp (.eq) (.bi (.len) [.attr (.loc 1) 2]) (.loc 7), .not (.attr (.loc 1) 6)])]]
noncomputable def hU : S := .expr (.meth (.loc 1) 2 [.const (.int 1)])
noncomputable def hW : S := .ret (some (.bop true [.loc 9, .cmp (.eq) (.fn 15 [.loc 1]) (.loc 4)]))
noncomputable def b18 : List S := [GZ, Ja, Ky, D6, Mu, wq, wC, v8, oe, n7, hU, hW]
noncomputable def Cf : S := .assignTup [.name 1, .name 2, .name 3, .name 4] [.list true [.bi (.list) [.slice false (.loc 0) none (some (.const (.int 40)))], .const (.int 0)], .new 1, .new 0, .const (.int 0)]
noncomputable def yS : S := .expr (.meth (.loc 2) 15 [.tup [.tup [.const (.int 0), .const (.int 3)]]])
noncomputable def zw : List S := [yS]
noncomputable def B9 : S := .for_ (.name 5) (.range1 (.const (.int 3))) zw
noncomputable def BS : S := .assign (.name 7) (.comp false (.fn 12 [.loc 1]) [12] true (.range1 (.bin (.add) (.const (.int 1)) (.fn 10 [.loc 1, .const (.int 3)]))) [] 11 2)
noncomputable def zN : S := .expr (.meth (.loc 3) 6 [.loc 8])
noncomputable def uI : List S := [zN]
noncomputable def AQ : S := .for_ (.name 8) (.of (.loc 7)) uI
noncomputable def AF : S := .assign (.name 9) (.meth (.loc 3) 14 [.loc 2, .list false [.const (.int 0), .const (.int 1), .const (.int 2)]])
noncomputable def pH : S := .ite (.bop true [.not (.loc 9), .cmp (.eq) (.meth (.loc 2) 25 []) (.const (.int 0))]) [.ret (some (.const (.bool true)))] []
noncomputable def sL : S := .ite (.bop false [.not (.loc 9), .bop true [.cmp (.gt) (.loc 6) (.const (.int 0)), .cmp (.eq) (.fn 10 [.loc 1, .const (.int 3)]) (.const (.int 2)), .cmp (.gt) (.meth (.loc 2) 25 []) (.const (.int 0))]]) [.expr (.meth (.loc 2) 2 [.bin (.add) (.const (.int 1)) (.fn 10 [.loc 1, .meth (.loc 2) 25 []])])] []
noncomputable def kZ : S := .ite (.bop false [.not (.fn 17 [.loc 2, .loc 3, .loc 7]), .not (.fn 18 [.loc 1, .loc 2])]) [.ret (some (.const (.bool false)))] []
noncomputable def li : S := .assign (.name 10) (.fn 11 [.loc 1])
noncomputable def kS : S := .assign (.name 9) (.const (.bool true))
noncomputable def jI : S := .ite (.cmp (.eq) (.meth (.loc 2) 19 [.loc 10]) (.const (.int 0))) [.expr (.meth (.loc 2) 24 []), .expr (.meth (.loc 2) 26 []), .assign (.name 9) (.bop true [.meth (.loc 2) 22 [.loc 10], .meth (.loc 3) 14 [.loc 2, .meth (.loc 2) 26 []]])] []
noncomputable def kL : List S := [pH, sL, kZ, li, kS, jI]
noncomputable def uQ : S := .for_ (.name 6) (.range1 (.const (.int 5))) kL
noncomputable def yp : S := .ret (some (.bop false [.not (.loc 9), .fn 17 [.loc 2, .loc 3, .loc 7]]))
noncomputable def b19 : List S := [Cf, B9, BS, AQ, AF, uQ, yp]
noncomputable def Js : S := .assign (.attr (.loc 0) 8) (.list true [])
noncomputable def M2 : S := .assign (.attr (.loc 0) 9) (.list true [])
noncomputable def MM : S := .assign (.attr (.loc 0) 10) (.list true [])
noncomputable def F4 : S := .assign (.attr (.loc 0) 11) (.edict)
noncomputable def b20 : List S := [Js, M2, MM, F4]
noncomputable def JL : S := .assign (.name 2) (.bi (.len) [.attr (.loc 0) 8])
noncomputable def Gz : S := .expr (.meth (.attr (.loc 0) 8) 0 [.bi (.listT) [.loc 1]])
noncomputable def OY : S := .ite (.cmp (.lt) (.bi (.len) [.loc 1]) (.const (.int 2))) [.expr (.meth (.attr (.loc 0) 9) 0 [.loc 2])] [.expr (.meth (.attr (.loc 0) 10) 0 [.loc 2])]
noncomputable def K3 : S := .ret (some (.loc 2))
noncomputable def b21 : List S := [JL, Gz, OY, K3]
noncomputable def KQ : S := .ret (some (.ite (.cmp (.eq) (.meth (.loc 1) 19 [.loc 2]) (.neg (.const (.int 1)))) (.fn 9 [.loc 1, .fn 6 [.loc 2]]) (.bi (.len) [.attr (.loc 1) 2])))
noncomputable def b22 : List S := [KQ]
noncomputable def GT : S := .assign (.name 3) (.meth (.attr (.loc 0) 11) 4 [.loc 1, .list true []])
noncomputable def Hv : S := .ite (.cmp (.notin) (.loc 2) (.loc 3)) [.expr (.meth (.loc 3) 0 [.loc 2])] []
noncomputable def b23 : List S := [GT, Hv]
noncomputable def FA : S := .assign (.name 3) (.comp false (.tup [.neg (.meth (.loc 0) 7 [.loc 1, .loc 5]), .loc 5]) [5] true (.of (.sub (.attr (.loc 0) 8) (.loc 2))) [] 4 2)
noncomputable def G3 : S := .assign (.sub (.attr (.loc 0) 8) (.loc 2)) (.comp true (.loc 6) [5, 6] false (.of (.bi (.sorted) [.loc 3])) [] 4 3)
noncomputable def FP : S := .expr (.meth (.loc 0) 8 [.sub (.sub (.sub (.attr (.loc 0) 8) (.loc 2)) (.const (.int 0))) (.const (.int 0)), .loc 2])
noncomputable def F3 : S := .expr (.meth (.loc 0) 8 [.sub (.sub (.sub (.attr (.loc 0) 8) (.loc 2)) (.const (.int 1))) (.const (.int 0)), .loc 2])
noncomputable def b24 : List S := [FA, G3, FP, F3]
noncomputable def Jd : S := .assign (.name 4) (.sub (.attr (.loc 0) 8) (.loc 2))
noncomputable def I6 : S := .ite (.cmp (.ne) (.meth (.loc 1) 19 [.sub (.loc 4) (.loc 5)]) (.neg (.const (.int 1)))) [.assign (.name 6) (.sub (.sub (.loc 4) (.loc 3)) (.const (.int 0))), .assignTup [.sub (.loc 4) (.loc 3), .sub (.loc 4) (.loc 5)] [.sub (.loc 4) (.loc 5), .sub (.loc 4) (.loc 3)], .ite (.bop true [.cmp (.ne) (.loc 6) (.sub (.sub (.loc 4) (.const (.int 0))) (.const (.int 0))), .cmp (.ne) (.loc 6) (.sub (.sub (.loc 4) (.const (.int 1))) (.const (.int 0)))]) [.expr (.meth (.sub (.attr (.loc 0) 11) (.loc 6)) 3 [.loc 2])] [], .expr (.meth (.loc 0) 8 [.sub (.sub (.loc 4) (.loc 3)) (.const (.int 0)), .loc 2]), .ret none] []
noncomputable def vq : List S := [I6]
noncomputable def GV : S := .for_ (.name 5) (.range2 (.const (.int 2)) (.bi (.len) [.loc 4])) vq
noncomputable def b25 : List S := [Jd, GV]
noncomputable def K0 : S := .assign (.name 4) (.sub (.attr (.loc 0) 8) (.loc 2))
noncomputable def E2 : S := .ret (some (.meth (.loc 1) 21 [.sub (.loc 4) (.loc 3), .bi (.tuple) [.comp false (.fn 6 [.sub (.loc 4) (.loc 6)]) [6] true (.range1 (.bi (.len) [.loc 4])) [.cmp (.ne) (.loc 6) (.loc 3)] 5 2]]))
noncomputable def b26 : List S := [K0, E2]
noncomputable def Ec : S := .assign (.name 3) (.sub (.attr (.loc 0) 8) (.loc 2))
noncomputable def GL : S := .ite (.cmp (.eq) (.meth (.loc 1) 19 [.sub (.loc 3) (.loc 4)]) (.neg (.const (.int 1)))) [.expr (.meth (.loc 0) 10 [.loc 1, .loc 2, .loc 4])] []
noncomputable def zW : List S := [GL]
noncomputable def GD : S := .for_ (.name 4) (.of (.tup [.const (.int 0), .const (.int 1)])) zW
noncomputable def EE : S := .assignTup [.name 5, .name 6] [.meth (.loc 1) 19 [.sub (.loc 3) (.const (.int 0))], .meth (.loc 1) 19 [.sub (.loc 3) (.const (.int 1))]]
noncomputable def Kj : S := .ite (.bop false [.cmp (.eq) (.loc 5) (.const (.int 1)), .cmp (.eq) (.loc 6) (.const (.int 1)), .bop true [.cmp (.eq) (.loc 5) (.const (.int 0)), .cmp (.eq) (.loc 6) (.const (.int 0))]]) [.ret (some (.const (.bool true)))] []
noncomputable def LP : S := .ite (.bop true [.cmp (.eq) (.loc 5) (.neg (.const (.int 1))), .cmp (.eq) (.loc 6) (.neg (.const (.int 1)))]) [.ret (some (.meth (.loc 1) 23 [.bi (.tuple) [.comp false (.fn 6 [.loc 8]) [8] true (.of (.loc 3)) [] 7 2]]))] []
noncomputable def EC : S := .ret (some (.meth (.loc 0) 11 [.loc 1, .loc 2, .ite (.cmp (.eq) (.loc 6) (.neg (.const (.int 1)))) (.const (.int 0)) (.const (.int 1))]))
noncomputable def b27 : List S := [Ec, GD, EE, Kj, LP, EC]
noncomputable def Ed : S := .assign (.name 3) (.sub (.attr (.loc 0) 8) (.loc 2))
noncomputable def E3 : S := .ite (.bop false [.cmp (.eq) (.loc 3) (.list false []), .cmp (.eq) (.meth (.loc 1) 19 [.sub (.loc 3) (.const (.int 0))]) (.neg (.const (.int 1)))]) [.ret (some (.meth (.loc 1) 23 [.bi (.tuple) [.comp false (.fn 6 [.loc 6]) [6] true (.of (.loc 3)) [] 5 2]]))] []
noncomputable def Lz : S := .expr (.meth (.loc 1) 21 [.sub (.loc 3) (.const (.int 0)), .tup []])
noncomputable def Kh : List S := [Ed, E3, Lz]
noncomputable def yR : S := .for_ (.name 2) (.of (.attr (.loc 0) 9)) Kh
noncomputable def Ce : S := .assignTup [.name 4, .attr (.loc 0) 10] [.attr (.loc 0) 10, .list true []]
noncomputable def HE : S := .expr (.meth (.loc 0) 9 [.loc 1, .loc 2])
noncomputable def Ij : S := .ite (.not (.meth (.loc 0) 12 [.loc 1, .loc 2])) [.assign (.attr (.loc 0) 10) (.comp true (.loc 6) [6] true (.of (.loc 4)) [.cmp (.gt) (.loc 6) (.loc 2)] 5 2), .ret (some (.const (.bool false)))] []
noncomputable def zU : List S := [HE, Ij]
noncomputable def AR : S := .for_ (.name 2) (.of (.loc 4)) zU
noncomputable def wI : S := .ret (some (.const (.bool true)))
noncomputable def b28 : List S := [yR, Ce, AR, wI]
noncomputable def pr : S := .assign (.name 3) (.bi (.len) [.attr (.loc 1) 2])
noncomputable def pX : S := .ite (.not (.meth (.loc 0) 13 [.loc 1])) [.ret (some (.const (.bool false)))] []
noncomputable def qj : S := .assign (.name 4) (.bin (.add) (.bi (.list) [.ite (.cmp (.is) (.loc 2) (.const (.none))) (.bad) (.loc 2)]) (.comp false (.sub (.loc 8) (.const (.int 0))) [8] true (.of (.slice false (.attr (.loc 1) 2) (some (.loc 3)) none)) [] 7 2))
noncomputable def pM : S := .assign (.name 5) (.const (.int 0))
noncomputable def sF : E := (.cmp (.lt) (.loc 5) (.bi (.len) [.loc 4]))
noncomputable def Cs : S := .assign (.name 3) (.bi (.len) [.attr (.loc 1) 2])
noncomputable def A1 : S := .ite (.not (.meth (.loc 0) 12 [.loc 1, .loc 6])) [.ret (some (.const (.bool false)))] []
noncomputable def BA : S := .expr (.meth (.loc 4) 1 [.comp false (.sub (.loc 8) (.const (.int 0))) [8] true (.of (.slice false (.attr (.loc 1) 2) (some (.loc 3)) none)) [] 7 2])
noncomputable def vY : List S := [Cs, A1, BA]
noncomputable def Cp : S := .for_ (.name 6) (.of (.bi (.list) [.meth (.attr (.loc 0) 11) 5 [.sub (.loc 4) (.loc 5), .list false []]])) vY
noncomputable def Ai : S := .assign (.name 5) (.bin (.add) (.loc 5) (.const (.int 1)))
noncomputable def vj : List S := [Cp, Ai]
noncomputable def mE : S := .whil sF vj
noncomputable def qg : S := .ret (some (.const (.bool true)))
noncomputable def vd : List S := [pr, pX, qj, pM, mE, qg]
noncomputable def Lf : S := .assign (.attr (.loc 0) 0) (.list true [])
noncomputable def D8 : S := .assign (.attr (.loc 0) 1) (.list true [])
noncomputable def Mz : S := .assign (.attr (.loc 0) 2) (.list true [])
noncomputable def IC : S := .assign (.attr (.loc 0) 3) (.list true [])
noncomputable def D4 : S := .assign (.attr (.loc 0) 4) (.edict)
noncomputable def GN : S := .assign (.attr (.loc 0) 5) (.neg (.const (.int 1)))
noncomputable def Ki : S := .assign (.attr (.loc 0) 6) (.const (.bool false))
noncomputable def Iy : S := .assign (.attr (.loc 0) 7) (.tup [])
noncomputable def b30 : List S := [Lf, D8, Mz, IC, D4, GN, Ki, Iy]
noncomputable def OO : S := .expr (.meth (.attr (.loc 0) 0) 0 [.loc 1])
noncomputable def JC : S := .expr (.meth (.attr (.loc 0) 1) 0 [.loc 1])
noncomputable def Mo : S := .ite (.cmp (.eq) (.loc 1) (.tup [])) [.expr (.meth (.loc 0) 23 [.tup []])] []
noncomputable def Hr : S := .ret (some (.bin (.sub) (.bi (.len) [.attr (.loc 0) 0]) (.const (.int 1))))
noncomputable def b31 : List S := [OO, JC, Mo, Hr]
noncomputable def EK : S := .ret (some (.bi (.len) [.attr (.loc 0) 0]))
noncomputable def b32 : List S := [EK]
noncomputable def GO : S := .ret (some (.sub (.attr (.loc 0) 1) (.loc 1)))
noncomputable def b33 : List S := [GO]
noncomputable def Es : S := .ret (some (.fn 1 [.sub (.attr (.loc 0) 0) (.loc 1), .loc 2]))
noncomputable def b34 : List S := [Es]
noncomputable def Ko : S := .ret (some (.fn 8 [.loc 1, .sub (.attr (.loc 0) 0) (.sub (.loc 1) (.const (.int 0)))]))
noncomputable def b35 : List S := [Ko]
noncomputable def IG : S := .assign (.name 4) (.sub (.loc 1) (.const (.int 0)))
noncomputable def N9 : S := .assign (.name 5) (.sub (.attr (.loc 0) 0) (.loc 4))
noncomputable def OW : S := .assign (.name 6) (.fn 7 [.loc 1, .loc 5])
noncomputable def KH : S := .ite (.cmp (.eq) (.loc 6) (.tup [])) [.ret (some (.meth (.loc 0) 23 [.bin (.add) (.ite (.cmp (.is) (.loc 2) (.const (.none))) (.tup []) (.loc 2)) (.tup [.fn 6 [.loc 1]])]))] []
noncomputable def G0 : S := .ite (.cmp (.eq) (.loc 6) (.loc 5)) [.ret (some (.const (.bool true)))] []
noncomputable def Ej : S := .expr (.meth (.attr (.loc 0) 2) 0 [.tup [.loc 4, .loc 5, .loc 1, .loc 2, .loc 3]])
noncomputable def O8 : S := .assign (.sub (.attr (.loc 0) 0) (.loc 4)) (.loc 6)
noncomputable def I1 : S := .assign (.sub (.attr (.loc 0) 4) (.loc 4)) (.const (.bool true))
noncomputable def E6 : S := .ret (some (.const (.bool true)))
noncomputable def b36 : List S := [IG, N9, OW, KH, G0, Ej, O8, I1, E6]
noncomputable def HK : S := .ret (some (.meth (.loc 0) 20 [.loc 1, .bi (.tuple) [.loc 2], .attr (.loc 0) 5]))
noncomputable def b37 : List S := [HK]
noncomputable def EY : S := .ret (some (.meth (.loc 0) 20 [.loc 1, .const (.none), .neg (.const (.int 1))]))
noncomputable def b38 : List S := [EY]
noncomputable def M4 : S := .assign (.attr (.loc 0) 6) (.const (.bool true))
noncomputable def Pc : S := .assign (.attr (.loc 0) 7) (.bi (.tuple) [.loc 1])
noncomputable def NP : S := .ret (some (.const (.bool false)))
noncomputable def b39 : List S := [M4, Pc, NP]
noncomputable def Ih : S := .expr (.meth (.attr (.loc 0) 3) 0 [.bi (.len) [.attr (.loc 0) 2]])
noncomputable def b40 : List S := [Ih]
noncomputable def NV : S := .ite (.cmp (.lt) (.loc 1) (.const (.int 1))) [.ret none] []
noncomputable def Lp : S := .assign (.name 2) (.sub (.attr (.loc 0) 3) (.bin (.sub) (.bi (.len) [.attr (.loc 0) 3]) (.loc 1)))
noncomputable def LL : S := .assign (.attr (.loc 0) 3) (.slice true (.attr (.loc 0) 3) none (some (.bin (.sub) (.bi (.len) [.attr (.loc 0) 3]) (.loc 1))))
noncomputable def Lo : E := (.cmp (.gt) (.bi (.len) [.attr (.loc 0) 2]) (.loc 2))
noncomputable def Ke : S := .assign (.name 3) (.meth (.attr (.loc 0) 2) 2 [])
noncomputable def Mb : S := .assign (.sub (.attr (.loc 0) 0) (.sub (.loc 3) (.const (.int 0)))) (.sub (.loc 3) (.const (.int 1)))
noncomputable def OU : List S := [Ke, Mb]
noncomputable def uU : S := .whil Lo OU
noncomputable def Ps : S := .assign (.attr (.loc 0) 4) (.edict)
noncomputable def K7 : S := .assign (.attr (.loc 0) 6) (.cmp (.isin) (.tup []) (.attr (.loc 0) 1))
noncomputable def Gk : S := .assign (.attr (.loc 0) 7) (.tup [])
noncomputable def b41 : List S := [NV, Lp, LL, uU, Ps, K7, Gk]
noncomputable def EL : S := .ret (some (.bi (.len) [.attr (.loc 0) 3]))
noncomputable def b42 : List S := [EL]
noncomputable def J7 : S := .assign (.name 1) (.bi (.sorted) [.attr (.loc 0) 4])
noncomputable def J6 : S := .assign (.attr (.loc 0) 4) (.edict)
noncomputable def Eu : S := .ret (some (.loc 1))
noncomputable def b43 : List S := [J7, J6, Eu]
noncomputable def sR : List FR := [⟨2, 4, b0⟩, ⟨2, 2, b1⟩, ⟨2, 2, b2⟩, ⟨2, 2, b3⟩, ⟨2, 2, b4⟩, ⟨2, 7, b5⟩, ⟨1, 4, b6⟩, ⟨2, 4, b7⟩, ⟨2, 3, b8⟩, ⟨2, 5, b9⟩, ⟨2, 6, b10⟩, ⟨1, 1, b11⟩, ⟨1, 2, b12⟩, ⟨2, 4, b13⟩, ⟨2, 2, b14⟩, ⟨1, 1, b15⟩, ⟨2, 5, b16⟩, ⟨3, 11, b17⟩, ⟨2, 10, b18⟩, ⟨1, 11, b19⟩, ⟨1, 1, b20⟩, ⟨2, 3, b21⟩, ⟨3, 3, b22⟩, ⟨3, 4, b23⟩, ⟨3, 4, b24⟩, ⟨4, 7, b25⟩, ⟨4, 5, b26⟩, ⟨3, 7, b27⟩, ⟨2, 5, b28⟩, ⟨3, 7, vd⟩, ⟨1, 1, b30⟩, ⟨2, 2, b31⟩, ⟨1, 1, b32⟩, ⟨2, 2, b33⟩, ⟨3, 3, b34⟩, ⟨2, 2, b35⟩, ⟨4, 7, b36⟩, ⟨3, 3, b37⟩, ⟨2, 2, b38⟩, ⟨2, 2, b39⟩, ⟨1, 1, b40⟩, ⟨2, 4, b41⟩, ⟨1, 1, b42⟩, ⟨1, 2, b43⟩]
noncomputable def nT (c : Nat) : Option Nat := if c = 0 then some 20 else if c = 1 then some 30 else none
noncomputable def triples : List (Nat × Nat × Nat) := [(0, 6, 21), (0, 7, 22), (0, 8, 23), (0, 9, 24), (0, 10, 25), (0, 11, 26), (0, 12, 27), (0, 13, 28), (0, 14, 29), (1, 15, 31), (1, 16, 32), (1, 17, 33), (1, 18, 34), (1, 19, 35), (1, 20, 36), (1, 21, 37), (1, 22, 38), (1, 23, 39), (1, 24, 40), (1, 2, 41), (1, 25, 42), (1, 26, 43)]
noncomputable def cP (c m : Nat) : Option Nat := (triples.find? fun x => x.1 == c && x.2.1 == m).map (·.2.2)
noncomputable def cy : cn := ⟨sR, nT, cP, 12⟩
theorem Mp : sZ = cy.fns.map some := by kernel_rfl
theorem DN : cy.nattr = dE.length := rfl
end
section
noncomputable section
noncomputable abbrev R (n : Nat) : hY := I cy n
noncomputable def WE (n : Nat) : PE := dJ ((PW cy n).e)
theorem bb {n : Nat} : WE n = (PW cy n).e := eC _
noncomputable def ej (n : Nat) := dJ (fj (WE n))
theorem i7 {n : Nat} : ej n = fj (WE n) := eC _
noncomputable def pJ (n : Nat) := dJ (iX (WE n))
theorem wU {n : Nat} : pJ n = iX (WE n) := eC _
noncomputable def WB (n : Nat) := dJ (pB (WE n))
theorem uR {n : Nat} : WB n = pB (WE n) := eC _
noncomputable def WT (n : Nat) := dJ (pT (WE n))
theorem pR {n : Nat} : WT n = pT (WE n) := eC _
noncomputable def WC (n : Nat) : PC := dJ ((PW cy n).c)
theorem mC {n : Nat} : WC n = (PW cy n).c := eC _
noncomputable def WX (n : Nat) : PX := dJ ((PW cy n).x)
theorem ft {n : Nat} : WX n = (PW cy n).x := eC _
noncomputable def bN (n : Nat) := dJ (bY (WX n))
theorem iY {n : Nat} : bN n = bY (WX n) := eC _
noncomputable def lg (n : Nat) := dJ (jM (WE n))
theorem lU {n : Nat} : lg n = jM (WE n) := eC _
noncomputable def pO (n : Nat) := dJ (jZ (WE n))
theorem uu {n : Nat} : pO n = jZ (WE n) := eC _
noncomputable def mx (n : Nat) := dJ (lK (WE n))
theorem nG {n : Nat} : mx n = lK (WE n) := eC _
noncomputable def jR (n : Nat) := dJ (ie (WE n))
theorem sG {n : Nat} : jR n = ie (WE n) := eC _
noncomputable def hM (n : Nat) := dJ (fun (t : Tg) (b : List S) => eM (WE n) (bN n b) t)
theorem ve {n : Nat} : hM n = fun (t : Tg) (b : List S) => eM (WE n) (bN n b) t := eC _
def WM (n : Nat) (i m : Nat) (es : List E) (loc : Loc) (H : AH) (Q : KV) : Prop := gO (ag H i) (kM cy (WC n) (ej n es) i m loc H Q)
section
variable {n : Nat} {loc : Loc} {H : AH} {Q : V -> AH -> Prop} {Qs : List V -> AH -> Prop} {Qx : Fl -> Loc -> AH -> Prop} {Ql : Loc -> AH -> Prop} {Qi : List V -> Option (Nat × List V) -> AH -> Prop} {Qb : Bool -> AH -> Prop} {Qo : Option V -> AH -> Prop}
@[simp] theorem kM_list {c : PC} {es : T c9} {i m : Nat} {l : List V} : kM cy c es i m loc H Q (.list l) = es loc H (kMl i m Q) := rfl
@[simp] theorem kM_dict {c : PC} {es : T c9} {i m : Nat} {l : List (Int × V)} : kM cy c es i m loc H Q (.dict l) = es loc H (kMd i m Q) := rfl
@[simp] theorem kM_inst {c : PC} {es : T c9} {i m k j : Nat} : kM cy c es i m loc H Q (.inst k j) = gO (ag H j) (wd cy c es i k m loc H Q) := rfl
@[simp] theorem kMi2_attrs {c : PC} {es : T c9} {i k m : Nat} {a : List (Option V)} : wd cy c es i k m loc H Q (.attrs a) = c7 (cP k m) (kMi3 c es i loc H Q) := rfl
@[simp] theorem kSeq_next {f : T KX} : dn f Qx .next loc H = f loc H Qx := rfl
@[simp] theorem kSeq_ret {f : T KX} {v : V} : dn f Qx (.ret v) loc H = Qx (.ret v) loc H := rfl
@[simp] theorem kMe2_WM {i m : Nat} {es : List E} : yI cy (WC n) (ej n es) m loc H Q i = WM n i m es loc H Q := rfl
theorem sT {i m : Nat} {es : List E} : WM n i m es loc H Q = gO (ag H i) (kM cy (WC n) (ej n es) i m loc H Q) := rfl
@[simp] theorem WOf_ref {i : Nat} : pn H (.ref i) Qi = jY (ag H i) (kOf2 i H Qi) := rfl
@[simp] theorem WOf_lst {l : List V} : pn H (.lst l) Qi = Qi l none H := rfl
@[simp] theorem WOf_tup {l : List V} : pn H (.tup l) Qi = Qi l none H := rfl
@[simp] theorem WEn_ref {i : Nat} : rt H (.ref i) Qi = jY (ag H i) (kEn2 i H Qi) := rfl
@[simp] theorem WEn_lst {l : List V} : rt H (.lst l) Qi = (l.all V.isInt = false /\ Qi (l.zipIdx.map fun p => V.tup [.int (p.2 : Int), p.1]) none H) := rfl
@[simp] theorem WEs_nil : ej n [] loc H Qs = Qs [] H := by simp only [bb, i7]; rfl
@[simp] theorem WEs_cons {e : E} {r : List E} : ej n (e :: r) loc H Qs = WE n e loc H (kCon (ej n r) loc Qs) := by simp only [bb, i7]; rfl
@[simp] theorem WE_const {v : V} : WE (n + 1) (.const v) loc H Q = Q v H := by simp only [bb]; rfl
@[simp] theorem WE_loc {i : Nat} : WE (n + 1) (.loc i) loc H Q = ow loc[i]? (kAt H Q) := by simp only [bb]; rfl
@[simp] theorem WE_tup {es : List E} : WE (n + 1) (.tup es) loc H Q = ej n es loc H (kTup Q) := by simp only [bb, i7]; rfl
@[simp] theorem WE_listT {es : List E} : WE (n + 1) (.list true es) loc H Q = ej n es loc H (kLsT true Q) := by simp only [bb, i7]; rfl
@[simp] theorem WE_list {es : List E} : WE (n + 1) (.list false es) loc H Q = ej n es loc H (kLsT false Q) := by simp only [bb, i7]; rfl
@[simp] theorem WE_edict : WE (n + 1) .edict loc H Q = Q (.ref H.length) (H ++ [.dict []]) := by simp only [bb]; rfl
@[simp] theorem WE_dictSel {ks : List ac} {es : List E} {s : E} : WE (n + 1) (.dictSel ks es s) loc H Q = ej n es loc H (kSel1 (WE n s) ks loc Q) := by simp only [bb, i7]; rfl
@[simp] theorem WE_attr {e : E} {k : Nat} : WE (n + 1) (.attr e k) loc H Q = WE n e loc H (kAttr k Q) := by simp only [bb]; rfl
@[simp] theorem WE_sub {a b : E} : WE (n + 1) (.sub a b) loc H Q = WE n a loc H (kSub1 (WE n b) loc Q) := by simp only [bb]; rfl
@[simp] theorem WEo_none : pJ n none loc H Qo = Qo none H := by simp only [bb, wU]; rfl
@[simp] theorem WEo_some {e : E} : pJ n (some e) loc H Qo = WE n e loc H (kSome Qo) := by simp only [bb, wU]; rfl
@[simp] theorem WE_slice {t : Bool} {a : E} {lo hi : Option E} : WE (n + 1) (.slice t a lo hi) loc H Q = WE n a loc H (kSl1 (pJ n lo) (pJ n hi) t loc Q) := by simp only [bb, wU]; rfl
@[simp] theorem WE_bin {op : Op} {a b : E} : WE (n + 1) (.bin op a b) loc H Q = WE n a loc H (kBin1 (WE n b) op loc Q) := by simp only [bb]; rfl
@[simp] theorem WE_neg {a : E} : WE (n + 1) (.neg a) loc H Q = WE n a loc H (kNeg Q) := by simp only [bb]; rfl
@[simp] theorem WE_not {a : E} : WE (n + 1) (.not a) loc H Q = WE n a loc H (kNot Q) := by simp only [bb]; rfl
@[simp] theorem WE_cmp {op : Cm} {a b : E} : WE (n + 1) (.cmp op a b) loc H Q = WE n a loc H (kCmp1 (WE n b) op loc Q) := by simp only [bb]; rfl
@[simp] theorem WE_bop {Sl : Bool} {es : List E} : WE (n + 1) (.bop Sl es) loc H Q = WB n Sl es loc H Q := by simp only [bb, uR]; rfl
@[simp] theorem WB_one {Sl : Bool} {e : E} : WB n Sl [e] loc H Q = WE n e loc H (kB1 Q) := by simp only [bb, uR]; rfl
@[simp] theorem WB_cons {Sl : Bool} {e e' : E} {r : List E} : WB n Sl (e :: e' :: r) loc H Q = WE n e loc H (kB (WB n Sl (e' :: r)) Sl loc Q) := by simp only [bb, uR]; rfl
@[simp] theorem WE_ite {t a b : E} : WE (n + 1) (.ite t a b) loc H Q = WE n t loc H (kIf (WE n a) (WE n b) loc Q) := by simp only [bb]; rfl
@[simp] theorem WE_fn {f : Nat} {es : List E} : WE (n + 1) (.fn f es) loc H Q = ej n es loc H (kFn (WC n) f Q) := by simp only [bb, i7, mC]; rfl
@[simp] theorem kNew_the {p : PC} {c f : Nat} : wK cy p c H Q f = p f [.ref H.length] (H ++ [.inst c (H.length + 1), .attrs (fJ 12 none)]) (kNew2 H.length Q) := rfl
@[simp] theorem WE_new {c : Nat} : WE (n + 1) (.new c) loc H Q = c7 (nT c) (wK cy (WC n) c H Q) := by simp only [bb, mC]; rfl
@[simp] theorem WE_bi {b : Bi} {es : List E} : WE (n + 1) (.bi b es) loc H Q = ej n es loc H (kBi b Q) := by simp only [bb, i7]; rfl
@[simp] theorem WE_meth {o : E} {m : Nat} {es : List E} : WE (n + 1) (.meth o m es) loc H Q = WE n o loc H (kMe cy (WC n) (ej n es) m loc Q) := by simp only [bb, i7, mC]; rfl
@[simp] theorem WE_comp {t : Bool} {elt : E} {tg : List Nat} {one : Bool} {it : It} {ifs : List E} {base k : Nat} : WE (n + 1) (.comp t elt tg one it ifs base k) loc H Q = mx n it loc H (kCp (jR n elt tg one ifs) t base k loc Q) := by simp only [bb, nG, sG]; rfl
@[simp] theorem WIt_range1 {e : E} : mx n (.range1 e) loc H Qi = WE n e loc H (kR1 Qi) := by simp only [bb, nG]; rfl
@[simp] theorem WIt_range2 {a b : E} : mx n (.range2 a b) loc H Qi = WE n a loc H (kR2a (WE n b) loc Qi) := by simp only [bb, nG]; rfl
@[simp] theorem WIt_of {e : E} : mx n (.of e) loc H Qi = WE n e loc H (kOf Qi) := by simp only [bb, nG]; rfl
@[simp] theorem WIt_enum {e : E} : mx n (.enum e) loc H Qi = WE n e loc H (kEn Qi) := by simp only [bb, nG]; rfl
theorem uk {elt : E} {tg : List Nat} {one : Bool} {ifs : List E} {g : Gd} : jR n elt tg one ifs g [] loc H Qs = (bU g H = true /\ Qs [] H) := by simp only [sG, bb]; rfl
theorem wH {elt : E} {tg : List Nat} {one : Bool} {ifs : List E} {g : Gd} {v : V} {r : List V} : jR n elt tg one ifs g (v :: r) loc H Qs = (bU g H = true /\ c7 (iL tg one v loc) (kCo (WT n ifs) (WE n elt) (jR n elt tg one ifs g r) H Qs)) := by simp only [sG, pR, bb]; rfl
@[simp] theorem WT_nil : WT n [] loc H Qb = Qb true H := by simp only [bb, pR]; rfl
@[simp] theorem WT_cons {e : E} {r : List E} : WT n (e :: r) loc H Qb = WE n e loc H (kT (WT n r) loc Qb) := by simp only [bb, pR]; rfl
@[simp] theorem WXs_nil : bN n [] loc H Qx = Qx .next loc H := by simp only [ft, iY]; rfl
@[simp] theorem WXs_cons {s : S} {r : List S} : bN n (s :: r) loc H Qx = WX n s loc H (dn (bN n r) Qx) := by simp only [ft, iY]; rfl
@[simp] theorem WX_expr {e : E} : WX (n + 1) (.expr e) loc H Qx = WE n e loc H (kEx loc Qx) := by simp only [bb, ft]; rfl
@[simp] theorem WX_assign {t : Tg} {e : E} : WX (n + 1) (.assign t e) loc H Qx = WE n e loc H (kAs (lg n t) loc Qx) := by simp only [bb, ft, lU]; rfl
@[simp] theorem WX_assignTup {ts : List Tg} {es : List E} : WX (n + 1) (.assignTup ts es) loc H Qx = ej n es loc H (kAts (pO n ts) loc Qx) := by simp only [bb, i7, ft, uu]; rfl
@[simp] theorem WX_ret0 : WX (n + 1) (.ret none) loc H Qx = Qx (.ret .none) loc H := by simp only [ft]; rfl
@[simp] theorem WX_ret {e : E} : WX (n + 1) (.ret (some e)) loc H Qx = WE n e loc H (kRet loc Qx) := by simp only [bb, ft]; rfl
@[simp] theorem WX_ite {t : E} {a b : List S} : WX (n + 1) (.ite t a b) loc H Qx = WE n t loc H (kXi (bN n a) (bN n b) loc Qx) := by simp only [bb, ft, iY]; rfl
theorem NH {t : E} {b : List S} : WX (n + 1) (.whil t b) loc H Qx = WE n t loc H (kWh (bN n b) (WX n (.whil t b)) loc Qx) := by simp only [ft, bb, iY]; rfl
@[simp] theorem WX_for {t : Tg} {it : It} {b : List S} : WX (n + 1) (.for_ t it b) loc H Qx = mx n it loc H (kFr (hM n t b) loc Qx) := by simp only [bb, ft, iY, nG, ve]; rfl
theorem jJ {t : Tg} {b : List S} {g : Gd} : hM n t b g [] loc H Qx = (bU g H = true /\ Qx .next loc H) := by simp only [ve]; rfl
theorem lH {t : Tg} {b : List S} {g : Gd} {v : V} {r : List V} : hM n t b g (v :: r) loc H Qx = (bU g H = true /\ lg n t v loc H (kFo (bN n b) (hM n t b g r) Qx)) := by simp only [ve, lU, bb, iY, ft]; rfl
@[simp] theorem WSt_name {i : Nat} {v : V} : lg n (.name i) v loc H Ql = Ql (loc.set i (some v)) H := by simp only [bb, lU]; rfl
@[simp] theorem WSt_names {l : List Nat} {v : V} : lg n (.names l) v loc H Ql = c7 (oo l v loc) (kLoc H Ql) := by simp only [bb, lU]; rfl
@[simp] theorem WSt_attr {e : E} {k : Nat} {v : V} : lg n (.attr e k) v loc H Ql = WE n e loc H (kSa k v loc Ql) := by simp only [bb, lU]; rfl
@[simp] theorem WSt_sub {a b : E} {v : V} : lg n (.sub a b) v loc H Ql = WE n a loc H (kSs1 (WE n b) v loc Ql) := by simp only [bb, lU]; rfl
@[simp] theorem WSts_nil : pO n [] [] loc H Ql = Ql loc H := by simp only [bb, uu]; rfl
@[simp] theorem WSts_cons {t : Tg} {ts : List Tg} {v : V} {vs : List V} : pO n (t :: ts) (v :: vs) loc H Ql = lg n t v loc H (kSts (pO n ts) vs Ql) := by simp only [bb, lU, uu]; rfl
theorem jp {f np nl : Nat} {b : List S} {vs : List V} (hf : sR[f]? = some ⟨np, nl, b⟩) (hv : vs.length = np) : WC (n + 1) f vs H Q ↔ bN n b (vs.map some ++ fJ (nl - np) none) H (kEnd H Q) := by
 simp only [mC, iY, ft]
 show c7 sR[f]? _ ↔ _
 rw [hf]
 rw [isS_some]
 exact ⟨fun z => z.2, fun z => ⟨hv, z⟩⟩
theorem Mw {e : E} : WE n e loc H Q = WO ((R n).eval e loc H) Q := by rw [bb, me]; rfl
theorem z4 {f : Nat} {vs : List V} : WC n f vs H Q = WO ((R n).call f vs H) Q := by rw [mC, me]; rfl
theorem JV {s : List S} : bN n s loc H Qx = WO (M.Tactic.execs (R n).exec s loc H) fun fl p => Qx fl p.1 p.2 := by rw [iY, ft, me]; exact kx (gP (k9 _) s loc H) Qx
theorem Gn {es : List E} : WT n es loc H Qb = WO (jX (R n).eval es loc H) Qb := by rw [pR, bb, me]; exact kx (oh (bL _) es loc H) Qb
end
@[simp] theorem endC_same {H : AH} {Q : V -> AH -> Prop} {v : V} : cO H Q v H ↔ Q v H := by
 unfold cO; split <;> rfl
theorem uG {H X : AH} {Q : V -> AH -> Prop} {v : V} (h : v.noRef = true) : cO H Q v (H ++ X) ↔ Q v H := by
 unfold cO; rw [h]; simp
@[simp] theorem ti_0 : nT 0 = some 20 := rfl
@[simp] theorem ti_1 : nT 1 = some 30 := rfl
@[simp] theorem tm_0_6 : cP 0 6 = some 21 := rfl
@[simp] theorem tm_0_7 : cP 0 7 = some 22 := rfl
@[simp] theorem tm_0_8 : cP 0 8 = some 23 := rfl
@[simp] theorem tm_0_9 : cP 0 9 = some 24 := rfl
@[simp] theorem tm_0_10 : cP 0 10 = some 25 := rfl
@[simp] theorem tm_0_11 : cP 0 11 = some 26 := rfl
@[simp] theorem tm_0_12 : cP 0 12 = some 27 := rfl
@[simp] theorem tm_0_13 : cP 0 13 = some 28 := rfl
@[simp] theorem tm_0_14 : cP 0 14 = some 29 := rfl
@[simp] theorem tm_1_15 : cP 1 15 = some 31 := rfl
@[simp] theorem tm_1_16 : cP 1 16 = some 32 := rfl
@[simp] theorem tm_1_17 : cP 1 17 = some 33 := rfl
@[simp] theorem tm_1_18 : cP 1 18 = some 34 := rfl
@[simp] theorem tm_1_19 : cP 1 19 = some 35 := rfl
@[simp] theorem tm_1_20 : cP 1 20 = some 36 := rfl
@[simp] theorem tm_1_21 : cP 1 21 = some 37 := rfl
@[simp] theorem tm_1_22 : cP 1 22 = some 38 := rfl
@[simp] theorem tm_1_23 : cP 1 23 = some 39 := rfl
@[simp] theorem tm_1_24 : cP 1 24 = some 40 := rfl
@[simp] theorem tm_1_2 : cP 1 2 = some 41 := rfl
@[simp] theorem tm_1_25 : cP 1 25 = some 42 := rfl
@[simp] theorem tm_1_26 : cP 1 26 = some 43 := rfl
@[simp] theorem put_t1 {H : AH} {l : List V} : (bh H true l).1 = .ref H.length := rfl
@[simp] theorem put_t2 {H : AH} {l : List V} : (bh H true l).2 = H ++ [.list l] := rfl
@[simp] theorem put_f1 {H : AH} {l : List V} : (bh H false l).1 = .lst l := rfl
@[simp] theorem put_f2 {H : AH} {l : List V} : (bh H false l).2 = H := rfl
@[simp] theorem bnd_none : fN Option.none = some Option.none := rfl
@[simp] theorem flv_next : Fl.val .next = .none := rfl
@[simp] theorem flv_ret {v : V} : Fl.val (.ret v) = v := rfl
section
variable {H : AH} {x y : Int} {a b : V} {l r : List V} {i : Nat}
@[simp] theorem bin_add : hO H .add (.int x) (.int y) = some (.int (x + y), H) := rfl
@[simp] theorem bin_sub : hO H .sub (.int x) (.int y) = some (.int (x - y), H) := rfl
@[simp] theorem bin_mul : hO H .mul (.int x) (.int y) = if decide (x.natAbs < 2 ^ 40) && decide (y.natAbs < 2 ^ 40) then some (.int (x * y), H) else none := rfl
@[simp] theorem bin_div : hO H .fdiv (.int x) (.int y) = if decide (0 < y) && decide (y < 1073741824) then some (.int (qJ x y), H) else none := rfl
@[simp] theorem bin_mod : hO H .fmod (.int x) (.int y) = if 0 < y then some (.int (iP x y), H) else none := rfl
@[simp] theorem bin_tup : hO H .add (.tup l) (.tup r) = if l.length + r.length < 4096 then some (.tup (l ++ r), H) else none := rfl
@[simp] theorem bin_lst : hO H .add (.lst l) b = lM H .add (.lst l) b := rfl
@[simp] theorem bin_ref : hO H .add (.ref i) b = lM H .add (.ref i) b := rfl
@[simp] theorem bi_len : dq H .len [a] = (dF H a).map fun l => (.int l.length, H) := rfl
@[simp] theorem bi_max : dq H .max [.int x, .int y] = some (.int (if y > x then y else x), H) := rfl
@[simp] theorem bi_min : dq H .min [.int x, .int y] = some (.int (if y < x then y else x), H) := rfl
@[simp] theorem bi_tuple : dq H .tuple [a] = (dF H a).map fun l => (.tup l, H) := rfl
@[simp] theorem bi_list : dq H .list [a] = (dF H a).map fun l => (.lst l, H) := rfl
@[simp] theorem bi_listT : dq H .listT [a] = (dF H a).map fun l => bh H true l := rfl
@[simp] theorem bi_sref : dq H .sorted [.ref i] = iW (ag H i) (fun l => if sortable l then some (.lst (cq l), H) else Option.none) (fun l => if decide (l.length < 5) then some (.lst (cq (l.map fun p => .int p.1)), H) else Option.none) := rfl
@[simp] theorem bi_slst : dq H .sorted [.lst l] = if sortable l then some (.lst (cq l), H) else none := rfl
@[simp] theorem bi_sset : dq H .sortedSet [a] = (bK H a).bind fun l => if l.all V.isLit && decide (l.length < 5) then some (.lst (cq (fc l)), H) else none := rfl
@[simp] theorem cmp_lt : bF H .lt (.int x) (.int y) = some (decide (x < y)) := rfl
@[simp] theorem cmp_le : bF H .le (.int x) (.int y) = some (decide (x <= y)) := rfl
@[simp] theorem cmp_gt : bF H .gt (.int x) (.int y) = some (decide (x > y)) := rfl
@[simp] theorem cmp_ge : bF H .ge (.int x) (.int y) = some (decide (x >= y)) := rfl
@[simp] theorem cmp_eq : bF H .eq a b = eqv (du H a) (du H b) := rfl
@[simp] theorem cmp_ne : bF H .ne a b = (eqv (du H a) (du H b)).map (!·) := rfl
@[simp] theorem cmp_is : bF H .is a .none = some a.isNone := rfl
@[simp] theorem cmp_isn : bF H .isNot a .none = some (!a.isNone) := rfl
@[simp] theorem cmp_in : bF H .isin a b = (bK H b).bind (gT a) := rfl
@[simp] theorem cmp_nin : bF H .notin a b = ((bK H b).bind (gT a)).map (!·) := rfl
end
theorem sH {H : AH} {i : Nat} {l : List V} {v : V} : dB H i l 0 [v] = if l.length < 4096 then some (.none, H.set i (.list (l ++ [v]))) else Option.none := rfl
theorem ze {H : AH} {i : Nat} {l : List V} {v : V} : dB H i l 1 [v] = (bK H v).bind fun q => if v = .ref i then Option.none else if l.length + q.length < 4096 then some (.none, H.set i (.list (l ++ q))) else Option.none := rfl
theorem uK {H : AH} {i : Nat} {l : List V} : dB H i l 2 [] = l.getLast?.map fun v => (v, H.set i (.list l.dropLast)) := by simp [dB]
theorem z6 {H : AH} {i : Nat} {l : List V} {k : Int} : dB H i l 3 [.int k] = if l.all V.isInt then (i8 k l).map fun q => (.none, H.set i (.list q)) else Option.none := rfl
theorem wy {H : AH} {i : Nat} {l : List (Int × V)} {k : Int} {v : V} : gQ H i l 4 [.int k, v] = kz (dictAt l k) (fun w => some (w, H)) (if l.length < 4096 then some (v, H.set i (.dict (dictPut l k v))) else Option.none) := rfl
theorem BR {H : AH} {i : Nat} {l : List (Int × V)} {k : Int} {v : V} : gQ H i l 5 [.int k, v] = some (kz (dictAt l k) (fun w => (w, H)) (v, H)) := rfl
@[simp] theorem seqO_t {l : List V} {k : Int} : wj (.tup l) k = fE l k := rfl
@[simp] theorem seqO_l {l : List V} {k : Int} : wj (.lst l) k = fE l k := rfl
@[simp] theorem eqO_def {a b : V} : vb a b = if aI 8 a && aI 8 b then some (decide (a = b)) else Option.none := rfl
@[simp] theorem addTup_add {H : AH} {x y : List V} : vw H .add x y = if x.length + y.length < 4096 then some (.tup (x ++ y), H) else Option.none := rfl
@[simp] theorem arith_add {H : AH} {x y : Int} : pW H .add x y = some (.int (x + y), H) := rfl
@[simp] theorem arith_sub {H : AH} {x y : Int} : pW H .sub x y = some (.int (x - y), H) := rfl
theorem J0 {n : Nat} {e : E} {loc : Loc} {H : AH} {Q Q' : V -> AH -> Prop} (h : WE n e loc H Q) (k : ∀ v H, Q v H -> Q' v H) : WE n e loc H Q' := by
 rw [Mw] at h ⊢; exact wg h k
theorem G4 {n : Nat} {e : List E} {loc : Loc} {H : AH} {Q Q' : Bool -> AH -> Prop} (h : WT n e loc H Q) (k : ∀ v H, Q v H -> Q' v H) : WT n e loc H Q' := by
 rw [Gn] at h ⊢; exact wg h k
theorem Nz {n : Nat} {e : List S} {loc : Loc} {H : AH} {Q Q' : Fl -> Loc -> AH -> Prop} (h : bN n e loc H Q) (k : ∀ v l H, Q v l H -> Q' v l H) : bN n e loc H Q' := by
 rw [JV] at h ⊢; exact wg h fun a b q => k a b.1 b.2 q
theorem d7 {n f : Nat} {vs : List V} {H : AH} {v : V} (h : WC n f vs H fun x H' => x = v /\ H' = H) {Q : V -> AH -> Prop} : WC n f vs H Q ↔ Q v H := by
 rw [z4] at h ⊢
 obtain ⟨x, H', e, rfl, rfl⟩ := AW h
 rw [e, WO_some]
@[simp] theorem frz_int {H : AH} {i : Int} : du H (.int i) = .int i := rfl
@[simp] theorem frz_none {H : AH} : du H .none = .none := rfl
@[simp] theorem frz_bool {H : AH} {i : Bool} : du H (.bool i) = .bool i := rfl
@[simp] theorem frz_str {H : AH} {i : ac} : du H (.str i) = .str i := rfl
@[simp] theorem frz_tup {H : AH} {i : List V} : du H (.tup i) = .tup i := rfl
@[simp] theorem frz_lst {H : AH} {i : List V} : du H (.lst i) = .lst i := rfl
end
end
section
noncomputable section
noncomputable def PT0 : PR := ⟨fun u' u' u' u' => False, fun u' u' u' u' => False, WC 0⟩
noncomputable def PTs (n : Nat) (p : PR) : PR := ⟨nH cy p, mf p, WC (n + 1)⟩
noncomputable def PT (n : Nat) : PR := Nat.rec PT0 PTs n
theorem kX (n : Nat) : PT n = PW cy n := by
 induction n with
 | zero => exact congrArg (PR.mk _ _) mC
 | succ n ih =>
  have e : WC (n + 1) = pI cy (PW cy n) := mC
  show PR.mk (nH cy (PT n)) (mf (PT n)) (WC (n + 1)) = PR.mk (nH cy (PW cy n)) (mf (PW cy n)) (pI cy (PW cy n))
  rw [e, ih]
section
variable {n : Nat} {loc : Loc} {H : AH} {Q : KV} {Qs : c9} {Qx : KX} {Ql : KL} {Qb : KB}
theorem ji {b : List S} (h : bY (PT n).x b loc H Qx) : bN n b loc H Qx := by rw [iY, ft, <-kX]; exact h
theorem jj {b : List S} (h : bN n b loc H Qx) : bY (PT n).x b loc H Qx := by rw [iY, ft, <-kX] at h; exact h
theorem rM {b : S} (h : (PT n).x b loc H Qx) : WX n b loc H Qx := by rw [ft, <-kX]; exact h
theorem wE {b : S} (h : WX n b loc H Qx) : (PT n).x b loc H Qx := by rw [ft, <-kX] at h; exact h
theorem hV {e : E} (h : (PT n).e e loc H Q) : WE n e loc H Q := by rw [bb, <-kX]; exact h
theorem s_e {e : E} (h : WE n e loc H Q) : (PT n).e e loc H Q := by rw [bb, <-kX] at h; exact h
theorem iI {e : List E} (h : pT (PT n).e e loc H Qb) : WT n e loc H Qb := by rw [pR, bb, <-kX]; exact h
theorem iB {elt : E} {tg : List Nat} {one : Bool} {ifs : List E} {g : Gd} {l : List V} (h : jR n elt tg one ifs g l loc H Qs) : ie (PT n).e elt tg one ifs g l loc H Qs := by rw [sG, bb, <-kX] at h; exact h
theorem bD {f np nl : Nat} {b : List S} {vs : List V} (hf : sR[f]? = some ⟨np, nl, b⟩) (hv : vs.length = np) (h : bY (PT n).x b (vs.map some ++ fJ (nl - np) none) H (kEnd H Q)) : WC (n + 1) f vs H Q := (jp hf hv).mpr (ji h)
end
section
variable {α β : Type} {G : Prop}
theorem eO {x : Option ar} {o : ar} {K : ar -> Prop} (h : x = some o) (q : K o) : gO x K := by rw [h, isO_some]; exact q
theorem aK {x : Option (α × β)} {a : α} {b : β} {Q : α -> β -> Prop} (h : x = some (a, b)) (q : Q a b) : jW x Q := by rw [h, oWO_some]; exact q
theorem fh {x : Option ar} {l : List V} {Q : List V -> Prop} (h : x = some (.list l)) (q : Q l) : jY x Q := by rw [h]; exact q
theorem vQ {x : Option ar} {l : List (Int × V)} {Q : List (Int × V) -> Prop} (h : x = some (.dict l)) (q : Q l) : p9 x Q := by rw [h]; exact q
theorem Hn {x : Option (Option α)} {k : α} {Q : α -> Prop} (h : x = some (some k)) (q : Q k) : ow x Q := by rw [h]; exact q
theorem kI {b : Bool} {P : Bool -> Prop} (h : P b) : if b = true then P true else P false := by cases b <;> exact h
theorem EZ {H H' : AH} {Q : KV} {v : V} (q : Q v H) (r : Q v H') : cO H Q v H' := by unfold cO; split; exact q; exact r
theorem cx {H : AH} {Q : KV} {v : V} (q : Q v H) : cO H Q v H := EZ q q
end
end
end
section
noncomputable abbrev M := BitVec 4
noncomputable def iv (p : Int × Int) : V := .tup [.int p.1, .int p.2]
noncomputable def dV (d : List (Int × Int)) : V := .tup (d.map iv)
noncomputable def fe (m : M) : List (Int × Int) := match m.toNat with
 | 0 => [] | 1 => [(0, 0)] | 2 => [(1, 1)] | 3 => [(0, 1)] | 4 => [(2, 2)] | 5 => [(0, 0), (2, 2)] | 6 => [(1, 2)] | 7 => [(0, 2)]
 | 8 => [(3, 3)] | 9 => [(0, 0), (3, 3)] | 10 => [(1, 1), (3, 3)] | 11 => [(0, 1), (3, 3)] | 12 => [(2, 3)] | 13 => [(0, 0), (2, 3)] | 14 => [(1, 3)] | _ => [(0, 3)]
noncomputable def mV (m : M) : V := dV (fe m)
inductive Sg | le | ge | eq | ne deriving DecidableEq
noncomputable def sg : Sg -> ac
 | .le => fk | .ge => fq | .eq => fR | .ne => gW
structure aj where
 x : Nat
 s : Sg
 k : Int
 deriving DecidableEq
noncomputable def au (l : aj) : V := .tup [.int l.x, .str (sg l.s), .int l.k]
noncomputable def h9 (s : Sg) (k v : Int) : Bool := match s with
 | .le => decide (v <= k) | .ge => decide (v >= k) | .eq => decide (v = k) | .ne => !decide (v = k)
noncomputable def gu (s : Sg) (k : Int) : M := BitVec.ofNat 4 ((if h9 s k 0 then 1 else 0) + (if h9 s k 1 then 2 else 0) + (if h9 s k 2 then 4 else 0) + (if h9 s k 3 then 8 else 0))
theorem Lw : fk ≠ fq /\ fk ≠ fR /\ fk ≠ gW /\ fq ≠ fk /\ fq ≠ fR /\ fq ≠ gW /\ fR ≠ fk /\ fR ≠ fq /\ fR ≠ gW /\ gW ≠ fk /\ gW ≠ fq /\ gW ≠ fR := by decide +kernel
theorem GJ : mM fk = true /\ mM fq = true /\ mM fR = true /\ mM gW = true := by decide +kernel
theorem Aa (n : Nat) (s : Sg) : aI n (.str (sg s)) = true := by
 have := GJ
 cases s <;> simp [sg, wJ, this]
theorem I2 (n : Nat) (d : List (Int × Int)) : aI (n + 2) (dV d) = true := by
 simp [dV, Bv, iv, md]
theorem Bz (n : Nat) (l : aj) : aI (n + 1) (au l) = true := by
 simp [au, Bv, md, Aa]
theorem FU (d : List (Int × Int)) : V.noRefs (d.map iv) = true := by
 induction d with
 | nil => rfl
 | cons p d ih => simp [V.noRefs, iv, V.noRef, ih]
noncomputable def upTo (d : List (Int × Int)) (k : Int) : List (Int × Int) := (d.filter fun p => decide (p.1 <= k)).map fun p => (p.1, if k < p.2 then k else p.2)
noncomputable def jN (d : List (Int × Int)) (k : Int) : List (Int × Int) := (d.filter fun p => decide (p.2 >= k)).map fun p => (if k > p.1 then k else p.1, p.2)
noncomputable def gx (k : Int) : List (Int × Int) -> List (Int × Int)
 | [] => []
 | p :: r => (if (if k > p.1 then k else p.1) <= (if k < p.2 then k else p.2) then [(if k > p.1 then k else p.1, if k < p.2 then k else p.2)] else []) ++ (if p.2 < k then gx k r else [])
theorem KA {k : Int}  : gx k [] = ([]) := rfl
theorem LX {k : Int} {p} {r} : gx k (p :: r) = ((if (if k > p.1 then k else p.1) <= (if k < p.2 then k else p.2) then [(if k > p.1 then k else p.1, if k < p.2 then k else p.2)] else []) ++ (if p.2 < k then gx k r else [])) := rfl
noncomputable def AY (s : Sg) (k : Int) (d : List (Int × Int)) : List (Int × Int) := match s with
 | .le => upTo d k | .ge => jN d k | .eq => gx k d | .ne => upTo d (k - 1) ++ jN d (k + 1)
noncomputable def g8 : List (Int × Int) -> Int -> Option Int
 | [], _ => none
 | p :: r, v => if v <= p.2 then some (if v > p.1 then v else p.1) else g8 r v
theorem Em  {p} {r} {v} : g8  (p :: r) v = (if v <= p.2 then some (if v > p.1 then v else p.1) else g8 r v) := rfl
noncomputable def neg (l : aj) : aj := match l.s with
 | .le => ⟨l.x, .ge, l.k + 1⟩ | .ge => ⟨l.x, .le, l.k - 1⟩ | .eq => ⟨l.x, .ne, l.k⟩ | .ne => ⟨l.x, .eq, l.k⟩
section
variable {n : Nat} {H : AH} {Q : V -> AH -> Prop}
theorem gI {α : Type} {elt : E} {tg : List Nat} {one : Bool} {ifs : List E} {g : Option (Nat × List V)} {Qs : List V -> AH -> Prop} (c : α -> V) (p : α -> Bool) (f : α -> V) (J : Loc -> Prop) (hs : bU g H = true) (l : List α) {items : List V} (hi : items = l.map c) {loc : Loc} (j : J loc)
  (k : ∀ v ∈ l, ∀ loc, J loc -> ∃ R3, iL tg one (c v) loc = some R3 /\ J R3 /\ WT n ifs R3 H (fun b H' => b = p v /\ H' = H) /\ (p v = true -> WE n elt R3 H fun x H' => x = f v /\ H' = H)) (h : Qs ((l.filter p).map f) H) :
  jR n elt tg one ifs g items loc H Qs := by
 subst hi
 induction l generalizing loc Qs with
 | nil => rw [gE, uk]; exact ⟨hs, h⟩
 | cons v r ih =>
  rw [cA, wH]
  refine ⟨hs, ?_⟩
  obtain ⟨R3, e1, j', h1, h2⟩ := k v aL loc j
  refine ab e1 (G4 h1 ?_)
  rintro b H' ⟨rfl, rfl⟩
  cases q : p v
  ·simp only [kCo2, cu, if_false]
   exact ih j' (fun u hu => k u (aQ _ hu)) (by simpa [q] using h)
  ·simp only [kCo2, if_true]
   refine J0 (h2 q) ?_
   rintro x H' ⟨rfl, rfl⟩
   exact ih j' (fun u hu => k u (aQ _ hu)) (by simpa [q] using h)
theorem pw {α : Type} {elt : E} {tg : List Nat} {one : Bool} {g : Option (Nat × List V)} {Qs : List V -> AH -> Prop} (c f : α -> V) (J : Loc -> Prop) (hs : bU g H = true) (l : List α) {items : List V} (hi : items = l.map c) {loc : Loc} (j : J loc)
  (k : ∀ v ∈ l, ∀ loc, J loc -> ∃ R3, iL tg one (c v) loc = some R3 /\ J R3 /\ (PT n).e elt R3 H (fun x H' => x = f v /\ H' = H)) (h : Qs (l.map f) H) : ie (PT n).e elt tg one [] g items loc H Qs := by
 refine iB (gI c (fun u' => true) f J hs l hi j (fun v hv loc jl => ?_) (by rw [xR.mpr fun u' u' => rfl]; exact h))
 obtain ⟨R3, a, b, d⟩ := k v hv loc jl
 exact ⟨R3, a, b, iI ⟨rfl, rfl⟩, fun u' => hV d⟩
theorem M6 {d : List (Int × Int)} {k : Int} : (upTo d k).length <= d.length := by
 simp only [upTo, aM]; exact Dy _ _
theorem Oe {d : List (Int × Int)} {k : Int} : (jN d k).length <= d.length := by
 simp only [jN, aM]; exact Dy _ _
theorem AT {d : List (Int × Int)} {k : Int} (hd : d.length < 4096) : WC (n + 9) 2 [dV d, .int k] H Q ↔ Q (dV (upTo d k)) H := by
 refine d7 ?_
 refine bD (f := 2) rfl rfl (And.intro ⟨rfl, by rw [aM]; exact hd⟩ (iB (n := n + 5) (gI iv (fun p => decide (p.1 <= k)) (fun p => iv (p.1, if k < p.2 then k else p.2)) (fun l => ∃ x y z, l = [some (.tup (d.map iv)), some (.int k), x, y, z]) rfl d rfl ⟨_, _, _, rfl⟩ ?_ ?_)))
 ·rintro p _ loc ⟨x, y, z, rfl⟩
  exact ⟨_, rfl, ⟨_, _, _, rfl⟩, iI (ab rfl (kI (P := fun x => x = decide (p.1 <= k) /\ H = H) ⟨rfl, rfl⟩)), fun u' => hV (aK rfl ⟨rfl, rfl⟩)⟩
 ·exact aK rfl (cx (Q := fun x H' => x = dV (upTo d k) /\ H' = H) ⟨by show V.tup _ = V.tup (ue iv (ue _ _)); rw [nv]; rfl, rfl⟩)
theorem BW {d : List (Int × Int)} {k : Int} (hd : d.length < 4096) : WC (n + 9) 3 [dV d, .int k] H Q ↔ Q (dV (jN d k)) H := by
 refine d7 ?_
 refine bD (f := 3) rfl rfl (And.intro ⟨rfl, by rw [aM]; exact hd⟩ (iB (n := n + 5) (gI iv (fun p => decide (p.2 >= k)) (fun p => iv (if k > p.1 then k else p.1, p.2)) (fun l => ∃ x y z, l = [some (.tup (d.map iv)), some (.int k), x, y, z]) rfl d rfl ⟨_, _, _, rfl⟩ ?_ ?_)))
 ·rintro p _ loc ⟨x, y, z, rfl⟩
  exact ⟨_, rfl, ⟨_, _, _, rfl⟩, iI (ab rfl (kI (P := fun x => x = decide (p.2 >= k) /\ H = H) ⟨rfl, rfl⟩)), fun u' => hV (aK rfl ⟨rfl, rfl⟩)⟩
 ·exact aK rfl (cx (Q := fun x H' => x = dV (jN d k) /\ H' = H) ⟨by show V.tup _ = V.tup (ue iv (ue _ _)); rw [nv]; rfl, rfl⟩)
theorem Nc {d : List (Int × Int)} {k : Int} (hd : d.length < 2000) : WC (n + 16) 4 [dV d, .int k] H Q ↔ Q (dV (upTo d (k - 1) ++ jN d (k + 1))) H := by
 have h3 : ((upTo d (k - 1)).map iv).length + ((jN d (k + 1)).map iv).length < 4096 := by
  rw [aM, aM]; exact cL (Cu M6 Oe) (n1 (Nat.add_lt_add hd hd) rfl)
 have S8 := n1 hd (K := 4096) rfl
 refine d7 ?_
 exact bD (f := 4) rfl rfl (aK rfl ((AT (n := n + 3) S8).mpr (aK rfl ((BW (n := n + 3) S8).mpr (aK (if_pos h3) (cx (Q := fun x H' => x = dV (upTo d (k - 1) ++ jN d (k + 1)) /\ H' = H) ⟨congrArg V.tup eJ.symm, rfl⟩))))))
theorem Fw {d : List (Int × Int)} {k : Int} : WC (n + 9) 0 [dV d, .int k] H Q ↔ Q ((g8 d k).elim .none .int) H := by
 have go : ∀ (e : List (Int × Int)) (x y : Option V) (Qx : KX), (g8 e k = none -> ∀ loc, Qx .next loc H) -> (∀ z, g8 e k = some z -> ∀ loc, Qx (.ret (.int z)) loc H) -> eM (PT (n + 7)).e (bY (PT (n + 7)).x Bo) (.names [2, 3]) none (e.map iv) [some (dV d), some (.int k), x, y] H Qx := by
  intro e
  induction e with
  | nil => exact fun x y Qx q1 u' => And.intro rfl (q1 rfl _)
  | cons p e ih =>
   intro x y Qx q1 q2
   rw [Em] at q1 q2
   by_cases h : k <= p.2
   ·exact And.intro rfl (ab rfl (ab (congrArg some (decide_eq_true h)) (aK rfl (q2 _ (if_pos h) _))))
   ·rw [if_neg h] at q1 q2
    exact And.intro rfl (ab rfl (ab (congrArg some (decide_eq_false h)) (ih _ _ Qx q1 q2)))
 refine d7 ?_
 refine bD (f := 0) rfl rfl (go d none none _ (fun h loc => ?_) fun z h loc => ?_)
 ·rw [h]; exact cx (Q := fun x H' => x = V.none /\ H' = H) ⟨rfl, rfl⟩
 ·rw [h]; exact cx (Q := fun x H' => x = V.int z /\ H' = H) ⟨rfl, rfl⟩
theorem II {d : List (Int × Int)} {k : Int} : WC (n + 16) 1 [dV d, .int k] H Q ↔ Q (.bool (decide (g8 d k = some k))) H := by
 have e : bF H .eq ((g8 d k).elim .none .int) (.int k) = some (decide (g8 d k = some k)) := by
  cases h : g8 d k with
  | none => simp [du, eqv, md, Mi]
  | some z => simp [du, eqv, md]
 refine d7 ?_
 exact bD (f := 1) rfl rfl ((Fw (n := n + 3)).mpr (ab e (cx (Q := fun x H' => x = V.bool (decide (g8 d k = some k)) /\ H' = H) ⟨rfl, rfl⟩)))
theorem jw (l : List V) (i : Nat) : fE l (i : Int) = l[i]? := by
 simp [fE]
theorem iG (H : AH) (o : ar) : ag (H ++ [o]) H.length = some o := by simp [ag]
theorem zi (H : AH) (o o' : ar) : (H ++ [o]).set H.length o' = H ++ [o'] := by simp
theorem E7 {d : List (Int × Int)} {k : Int} (hd : d.length < 1000) : ∀ (Sa pre : List (Int × Int)) (acc : List V) (x y : Option V) (Qx : KX), d = pre ++ Sa -> acc.length <= pre.length →
  (∀ loc : Loc, loc[2]? = some (some (.ref H.length)) -> Qx .next loc (H ++ [.list (acc ++ (gx k Sa).map iv)])) →
  WX (n + Sa.length + 14) uD [some (dV d), some (dV [(k, k)]), some (.ref H.length), some (.int (pre.length : Nat)), some (.int 0), x, y] (H ++ [.list acc]) Qx := by
 intro Sa
 induction Sa with
 | nil =>
  intro pre acc x y Qx e _ q
  have c : ¬ (pre.length : Int) < (((d.map iv).length : Nat) : Int) := by rw [aM, e, im]; exact mU _
  have q' := q [some (dV d), some (dV [(k, k)]), some (.ref H.length), some (.int (pre.length : Nat)), some (.int 0), x, y] rfl
  rw [KA, gE, im] at q'
  exact rM (aK rfl (ab (congrArg some (decide_eq_false c)) q'))
 | cons p r ih =>
  intro pre acc x y Qx e ha q
  have hl : (d.map iv).length = pre.length + 1 + r.length := by rw [aM, e, dg, iT, mL, tq 1]
  have c : (pre.length : Int) < (((d.map iv).length : Nat) : Int) := by rw [hl]; exact lj.mpr (cH (j7 _) (j4 _ _))
  have gs : ∀ H : AH, cf H (dV d) (.int (pre.length : Nat)) = some (iv p) := fun H => (jw _ _).trans (by rw [e]; simp)
  have UF := fun acc x y Qx => ih (pre ++ [p]) acc x y Qx (by rw [e, fL]; rfl)
  rw [dg] at UF
  have WQ : ∀ {H : AH} {a b : Int}, a < b -> bF H .lt (.int a) (.int b) = some true := fun h => congrArg some (decide_eq_true h)
  have YB : ∀ {H : AH} {a b : Int}, ¬ a < b -> bF H .lt (.int a) (.int b) = some false := fun h => congrArg some (decide_eq_false h)
  have Sa : ∀ (Tl : List V) (x y : Option V), Tl.length <= pre.length + 1 -> (∀ loc : Loc, loc[2]? = some (some (.ref H.length)) -> Qx .next loc (H ++ [.list (Tl ++ (if p.2 < k then gx k r else []).map iv)])) →
    bY (PT (n + r.length + 14)).x [At] [some (dV d), some (dV [(k, k)]), some (.ref H.length), some (.int (pre.length : Nat)), some (.int 0), x, y] (H ++ [.list Tl]) (dn ((PT (n + r.length + 14)).x uD) Qx) := fun Tl x y Ts q => by
   by_cases c2 : p.2 < k
   ·rw [if_pos c2] at q
    exact ab (gs _) (ab rfl (ab rfl (ab rfl (ab (WQ c2) (aK rfl (wE (n := n + r.length + 14) (UF Tl x y Qx Ts q)))))))
   ·rw [if_neg c2, gE, im] at q
    exact ab (gs _) (ab rfl (ab rfl (ab rfl (ab (YB c2) (aK rfl (aK rfl (ab (WQ c) (aK rfl (ab (YB (mU 1)) (q _ rfl))))))))))
  rw [LX] at q
  rw [show n + (p :: r).length + 14 = n + r.length + 14 + 1 from by rw [iT]; lia]
  refine rM (aK rfl (ab (WQ c) (aK rfl (ab (WQ (show (0 : Int) < ((1 : Nat) : Int) by decide)) (ab (gs _) (ab rfl (ab rfl (ab rfl (aK rfl (ab (gs _) (ab rfl (ab rfl (ab rfl (aK rfl ?_))))))))))))))
  generalize (if k > p.1 then k else p.1) = lo at q ⊢
  generalize (if k < p.2 then k else p.2) = hi at q ⊢
  by_cases h : lo <= hi
  ·rw [if_pos h, eJ, <-fL] at q
   refine ab (congrArg some (decide_eq_true h)) (eO (iG _ _) (fh (iG _ _) (aK ((sH.trans (if_pos (cL ha (cL (j5 (uf (cH (j7 _) (j4 _ r.length)) (hl.symm.trans (aM _)))) (n1 hd rfl))))).trans (congrArg (fun z => some (V.none, z)) (zi _ _ _))) (Sa (acc ++ [iv (lo, hi)]) _ _ (by rw [dg]; exact mH ha 1) q))))
  ·rw [if_neg h] at q
   exact ab (congrArg some (decide_eq_false h)) (Sa acc _ _ (CY ha) q)
theorem HJ {d : List (Int × Int)} {k : Int} (hd : d.length < 1000) : WC (n + d.length + 20) 5 [dV d, dV [(k, k)]] H Q ↔ Q (dV (gx k d)) H := by
 refine d7 ?_
 have m := fun Qx => E7 (n := n + 5) (H := H) (k := k) hd d [] [] none none Qx rfl (bq _)
 rw [show n + 5 + d.length + 14 = n + d.length + 19 from by lia] at m
 rw [jp (f := 5) rfl rfl]
 simp [b5, BG]
 refine m _ fun loc h2 => ji (n := n + d.length + 19) ?_
 rw [kg]
 have e : dq (H ++ [ar.list ((gx k d).map iv)]) .tuple [.ref H.length] = some (dV (gx k d), H ++ [ar.list ((gx k d).map iv)]) := by
  show (eB (ag _ _)).map _ = _
  rw [iG]; rfl
 exact Hn h2 (aK e ((uG (v := dV (gx k d)) (Q := fun x H' => x = dV (gx k d) /\ H' = H) (by simp [dV, V.noRef, FU])).mpr ⟨rfl, rfl⟩))
end
end
section
def aj.wide (l : aj) : Prop := -1 <= l.k /\ l.k <= 4
def aj.ok (l : aj) : Prop := l.x < 3 /\ 0 <= l.k /\ l.k <= 3
theorem aj.ok.wide {l : aj} (h : l.ok) : l.wide := ⟨by have := h.2.1; trivial, by have := h.2.2; trivial⟩
noncomputable def aj.m (l : aj) : M := gu l.s l.k
theorem NX {k : Int} (h : -1 <= k /\ k <= 4) : k = -1 \/ k = 0 \/ k = 1 \/ k = 2 \/ k = 3 \/ k = 4 := by trivial
theorem wN {k : Int} (h : -1 <= k /\ k <= 4) : k ∈ [(-1 : Int), 0, 1, 2, 3, 4] := by
 rcases NX h with rfl | rfl | rfl | rfl | rfl | rfl <;> decide
theorem uv (s : Sg) : s ∈ [Sg.le, .ge, .eq, .ne] := by cases s <;> decide
theorem Kp (s : Sg) (k : Int) (hk : -1 <= k /\ k <= 4) (m : M) : AY s k (fe m) = fe (m &&& gu s k) :=
 (by decide +kernel : ∀ s ∈ [Sg.le, .ge, .eq, .ne], ∀ k ∈ [(-1 : Int), 0, 1, 2, 3, 4], ∀ m : M, AY s k (fe m) = fe (m &&& gu s k)) s (uv s) k (wN hk) m
theorem yg (m : M) : (fe m).length <= 2 := by
 have : ∀ m : M, (fe m).length <= 2 := by decide +kernel
 exact this m
theorem Fd (a b : M) : fe a = fe b ↔ a = b := by
 have : ∀ a b : M, fe a = fe b ↔ a = b := by decide +kernel
 exact this a b
theorem G2 (a : M) : fe a = [] ↔ a = 0 := by
 have : ∀ a : M, fe a = [] ↔ a = 0 := by decide +kernel
 exact this a
theorem D9 : ∀ (p q : Int × Int), iv p = iv q -> p = q := by
 rintro ⟨a, b⟩ ⟨c, d⟩ h
 simp [iv] at h
 simp [h]
theorem HY {a b : M} : mV a = mV b ↔ a = b := by
 constructor
 ·intro h
  simp only [mV, dV, V.tup.injEq] at h
  exact (Fd a b).mp ((xS D9).mp h)
 ·rintro rfl; rfl
theorem JA {a : M} : mV a = .tup [] ↔ a = 0 := by
 simp [mV, dV, G2]
theorem uH (n : Nat) (m : M) : aI (n + 2) (mV m) = true := I2 n _
theorem Oo (s : Sg) (k : Int) (hk : 0 <= k /\ k <= 3) (x : Nat) : gu (neg ⟨x, s, k⟩).s (neg ⟨x, s, k⟩).k = ~~~ (gu s k) := by
 have h := (by decide +kernel : ∀ s ∈ [Sg.le, .ge, .eq, .ne], ∀ k ∈ [(-1 : Int), 0, 1, 2, 3, 4], -1 < k -> k < 4 -> gu (neg ⟨0, s, k⟩).s (neg ⟨0, s, k⟩).k = ~~~ (gu s k)) s (uv s) k (wN ⟨CE (by decide) hk.1, CE hk.2 (by decide)⟩) (PP (by decide) hk.1) (CA hk.2 (by decide))
 cases s <;> exact h
theorem Kt {l : aj} (h : l.ok) : (neg l).m = ~~~ l.m := by
 obtain ⟨x, s, k⟩ := l
 exact Oo s k h.2 x
theorem AE (l : aj) : (neg l).x = l.x := by
 obtain ⟨x, s, k⟩ := l; cases s <;> rfl
theorem Lm {l : aj} (h : l.ok) : (neg l).wide := by
 obtain ⟨x, s, k⟩ := l
 have h1 : 0 <= k /\ k <= 3 := h.2
 cases s <;> simp [neg, aj.wide] <;> trivial
theorem vK (a b : Sg) : sg a = sg b ↔ a = b := by
 have := Lw
 cases a <;> cases b <;> simp [sg, this]
theorem FY (a b : Sg) : (sg a == sg b) = decide (a = b) := by
 by_cases h : a = b
 ·subst h; simp
 ·have : sg a ≠ sg b := fun e => h ((vK a b).mp e)
  simp [h, this]
theorem G5 (a b : Sg) : eqv (.str (sg a)) (.str (sg b)) = some (decide (a = b)) := by
 simp [eqv, Aa, vK]
theorem jO (a b : Int) : eqv (.int a) (.int b) = some (decide (a = b)) := by
 simp [eqv, md]
theorem dP {H : AH} {a b : Int} (h : a = b) : bF H .eq (.int a) (.int b) = some true := (jO a b).trans (congrArg some (decide_eq_true h))
theorem kO {H : AH} {a b : Int} (h : ¬ a = b) : bF H .eq (.int a) (.int b) = some false := (jO a b).trans (congrArg some (decide_eq_false h))
theorem hH {H : AH} {a b c : Int} (h : a = c) (e : decide (c = b) = false) : bF H .eq (.int a) (.int b) = some false := kO fun q => of_decide_eq_false e (h.symm.trans q)
theorem uA {H : AH} {a b : Int} (h : ¬ a = b) : bF H .ne (.int a) (.int b) = some true := congrArg (kn (!·)) (kO (H := H) h)
theorem sE {H : AH} {a b : Int} (h : a = b) : bF H .ne (.int a) (.int b) = some false := congrArg (kn (!·)) (dP (H := H) h)
theorem Fm {a b : aj} : au a = au b ↔ a = b := by
 obtain ⟨x, s, k⟩ := a; obtain ⟨x', s', k'⟩ := b
 simp [au, vK]; trivial
noncomputable def fo (m : M) (l : aj) : Int := if m &&& l.m = m then 1 else if m &&& l.m = 0 then -1 else 0
theorem sW (a b : M) : eqv (mV a) (mV b) = some (decide (a = b)) := by
 show (if aI 8 (mV a) && aI 8 (mV b) then some (decide (mV a = mV b)) else none) = _
 rw [uH 6 a, uH 6 b]
 simp [@HY a b]
section
variable {n : Nat} {H : AH} {Q : V -> AH -> Prop}
theorem LU {m : M} {k : Int} : WC (n + 22) 5 [mV m, dV [(k, k)]] H Q ↔ Q (dV (gx k (fe m))) H := by
 have h := yg m
 have := @HJ (n + (2 - (fe m).length)) H Q (fe m) k (by trivial)
 rw [mL n, tu h] at this
 exact this
theorem eN {H : AH} (a b : Sg) : bF H .eq (.str (sg a)) (.str (sg b)) = some (decide (a = b)) := G5 a b
theorem vF {l : aj} {m : M} (hl : l.wide) : WC (n + 30) 7 [au l, mV m] H Q ↔ Q (mV (m &&& l.m)) H := by
 refine d7 ?_
 have Sx := yg m
 have Sk := congrArg dV (Kp l.s l.k hl m)
 obtain ⟨x, s, k⟩ := l
 cases s
 ·exact bD (f := 7) rfl rfl (ab rfl (ab rfl (ab (eN .le .le) ((AT (n := n + 17) (n3 Sx rfl)).mpr (cx (Q := fun x H' => x = mV (m &&& gu .le k) /\ H' = H) ⟨Sk, rfl⟩)))))
 ·exact bD (f := 7) rfl rfl (ab rfl (ab rfl (ab (eN .ge .le) (ab (eN .ge .ge) ((BW (n := n + 17) (n3 Sx rfl)).mpr (cx (Q := fun x H' => x = mV (m &&& gu .ge k) /\ H' = H) ⟨Sk, rfl⟩))))))
 ·exact bD (f := 7) rfl rfl (ab rfl (ab rfl (ab (eN .eq .le) (ab (eN .eq .ge) (ab (eN .eq .eq) ((LU (n := n + 4)).mpr (cx (Q := fun x H' => x = mV (m &&& gu .eq k) /\ H' = H) ⟨Sk, rfl⟩)))))))
 ·exact bD (f := 7) rfl rfl (ab rfl (ab rfl (ab (eN .ne .le) (ab (eN .ne .ge) (ab (eN .ne .eq) ((Nc (n := n + 10) (n3 Sx rfl)).mpr (cx (Q := fun x H' => x = mV (m &&& gu .ne k) /\ H' = H) ⟨Sk, rfl⟩)))))))
theorem wS {l : aj} {m : M} (hl : l.wide) : WC (n + 40) 8 [au l, mV m] H Q ↔ Q (.int (fo m l)) H := by
 refine d7 ?_
 have cT : ∀ {a b : M}, a = b -> bF H .eq (mV a) (mV b) = some true := fun h => (sW _ _).trans (congrArg some (decide_eq_true h))
 have cF : ∀ {a b : M}, ¬ a = b -> bF H .eq (mV a) (mV b) = some false := fun h => (sW _ _).trans (congrArg some (decide_eq_false h))
 refine bD (f := 8) rfl rfl ((vF (n := n + 7) hl).mpr ?_)
 unfold fo
 by_cases c1 : m &&& l.m = m
 ·rw [if_pos c1]; exact ab (cT c1) (cx (Q := fun x H' => x = V.int 1 /\ H' = H) ⟨rfl, rfl⟩)
 ·rw [if_neg c1]
  refine ab (cF c1) ?_
  by_cases c2 : m &&& l.m = 0
  ·rw [if_pos c2]; exact ab (cT (b := 0) c2) (cx (Q := fun x H' => x = V.int (-1) /\ H' = H) ⟨rfl, rfl⟩)
  ·rw [if_neg c2]; exact ab (cF (b := 0) c2) (cx (Q := fun x H' => x = V.int 0 /\ H' = H) ⟨rfl, rfl⟩)
theorem p0 {l : aj} : WC (n + 12) 6 [au l] H Q ↔ Q (au (neg l)) H := by
 refine d7 ?_
 obtain ⟨x, s, k⟩ := l
 cases s
 ·exact bD (f := 6) rfl rfl (ab rfl (ab (eN .le .le) (aK rfl (cx (Q := fun v H' => v = au (neg ⟨x, .le, k⟩) /\ H' = H) ⟨rfl, rfl⟩))))
 ·exact bD (f := 6) rfl rfl (ab rfl (ab (eN .ge .le) (ab (eN .ge .ge) (aK rfl (cx (Q := fun v H' => v = au (neg ⟨x, .ge, k⟩) /\ H' = H) ⟨rfl, rfl⟩)))))
 ·exact bD (f := 6) rfl rfl (ab rfl (ab (eN .eq .le) (ab (eN .eq .ge) (ab (eN .eq .eq) (cx (Q := fun v H' => v = au (neg ⟨x, .eq, k⟩) /\ H' = H) ⟨rfl, rfl⟩)))))
 ·exact bD (f := 6) rfl rfl (ab rfl (ab (eN .ne .le) (ab (eN .ne .ge) (ab (eN .ne .eq) (cx (Q := fun v H' => v = au (neg ⟨x, .ne, k⟩) /\ H' = H) ⟨rfl, rfl⟩)))))
theorem lk4 (a b c d : V) (s : Sg) : (([fk, fq, fR, gW].zip [a, b, c, d]).lookup (sg s)) = some (match s with | .le => a | .ge => b | .eq => c | .ne => d) := by
 show (([sg .le, sg .ge, sg .eq, sg .ne].zip [a, b, c, d]).lookup (sg s)) = _
 cases s <;> simp [eT, FY]
theorem FZ {l : aj} {v : Int} : WC (n + 12) 13 [au l, .int v] H Q ↔ Q (.bool (h9 l.s l.k v)) H := by
 refine d7 ?_
 obtain ⟨x, s, k⟩ := l
 have e : (match s with | .le => V.bool (decide (v <= k)) | .ge => .bool (decide (v >= k)) | .eq => .bool (decide (v = k)) | .ne => .bool (!decide (v = k))) = V.bool (h9 s k v) := by cases s <;> simp [h9]
 exact bD (f := 13) rfl rfl (ab rfl (ab rfl (ab rfl (ab rfl (ab (jO v k) (ab (congrArg (kn (!·)) (jO v k)) (ab ((lk4 _ _ _ _ s).trans (congrArg some e)) (cx (Q := fun x H' => x = V.bool (h9 s k v) /\ H' = H) ⟨rfl, rfl⟩))))))))
noncomputable def fP (m : M) : List Int := [0, 1, 2, 3].filter fun v => m.getLsbD v.toNat
noncomputable def bE (m : M) : V := .lst ((fP m).map .int)
theorem IN (s : Sg) (k : Int) (hk : -1 <= k /\ k <= 4) (m : M) : (fP m).filter (h9 s k) = fP (m &&& gu s k) :=
 (by decide +kernel : ∀ s ∈ [Sg.le, .ge, .eq, .ne], ∀ k ∈ [(-1 : Int), 0, 1, 2, 3, 4], ∀ m : M, (fP m).filter (h9 s k) = fP (m &&& gu s k)) s (uv s) k (wN hk) m
theorem F9 (m : M) : (fP m).length <= 4 := by
 have : ∀ m : M, (fP m).length <= 4 := by decide +kernel
 exact this m
theorem Og (a b : M) : fP a = fP b ↔ a = b := by
 have : ∀ a b : M, fP a = fP b ↔ a = b := by decide +kernel
 exact this a b
theorem Nw : ∀ (p q : Int), V.int p = V.int q -> p = q := fun p q h => by simpa using h
theorem NE {a b : M} : bE a = bE b ↔ a = b := by
 constructor
 ·intro h
  simp only [bE, V.lst.injEq] at h
  exact (Og a b).mp ((xS Nw).mp h)
 ·rintro rfl; rfl
theorem vE (n : Nat) (m : M) : aI (n + 2) (bE m) = true := by
 simp [bE, sh, md]
theorem we (a b : M) : eqv (bE a) (bE b) = some (decide (a = b)) := by
 show (if aI 8 (bE a) && aI 8 (bE b) then some (decide (bE a = bE b)) else none) = _
 rw [vE 6 a, vE 6 b]
 simp [@NE a b]
theorem jB {l : aj} {m : M} {Va : V} (hl : l.wide) (h : cf H Va (.int l.x) = some (bE m)) : WC (n + 24) 14 [au l, Va] H Q ↔ Q (bE (m &&& l.m)) H := by
 refine d7 ?_
 have Sk := IN l.s l.k hl m
 refine bD (f := 14) rfl rfl (ab rfl (ab h (And.intro ⟨rfl, by rw [aM]; exact n3 (F9 m) rfl⟩ (iB (n := n + 21) (gI V.int (fun v => h9 l.s l.k v) V.int (fun q => ∃ x y, q = [some (au l), some Va, x, y]) rfl (fP m) rfl ⟨_, _, rfl⟩ ?_ ?_)))))
 ·rintro p _ loc ⟨x, y, rfl⟩
  exact ⟨_, rfl, ⟨_, _, rfl⟩, iI ((FZ (n := n + 8)).mpr (kI (P := fun x => x = h9 l.s l.k p /\ H = H) ⟨rfl, rfl⟩)), fun u' => hV ⟨rfl, rfl⟩⟩
 ·rw [Sk]; exact cx (Q := fun x H' => x = bE (m &&& gu l.s l.k) /\ H' = H) ⟨rfl, rfl⟩
end
end
section
set_option genInjectivity false in
set_option genSizeOf false in
structure bW where
 x : Nat
 old : M
 lit : aj
 why : V
 sp : V
noncomputable def cV (e : bW) : V := .tup [.int e.x, mV e.old, au e.lit, e.why, e.sp]
set_option genInjectivity false in
set_option genSizeOf false in
structure St where
 doms : List M
 firsts : List M
 trail : List bW
 marks : List Nat
 news : List (Int × V)
 failed : Bool
 clash : List V
set_option genInjectivity false in
set_option genSizeOf false in
structure aO where
 ats : Nat
 dom : Nat
 fst : Nat
 trl : Nat
 mrk : Nat
 nws : Nat
noncomputable def aO.foot (S : Nat) (y : aO) : List Nat := [S, y.ats, y.dom, y.fst, y.trl, y.mrk, y.nws]
noncomputable def az (k : Nat) : V := .int k
noncomputable def dW (y : aO) (st : St) : List (Option V) := [some (.ref y.dom), some (.ref y.fst), some (.ref y.trl), some (.ref y.mrk), some (.ref y.nws), some (.int (-1)), some (.bool st.failed), some (.tup st.clash), none, none, none, none]
structure aB (H : AH) (S : Nat) (y : aO) (st : St) : Prop where
 inst : ag H S = some (.inst 1 y.ats)
 attrs : ag H y.ats = some (.attrs (dW y st))
 dom : ag H y.dom = some (.list (st.doms.map mV))
 fst : ag H y.fst = some (.list (st.firsts.map mV))
 trl : ag H y.trl = some (.list (st.trail.map cV))
 mrk : ag H y.mrk = some (.list (st.marks.map az))
 nws : ag H y.nws = some (.dict st.news)
 nd : (y.foot S).Nodup
def Fr (F : List Nat) (H H' : AH) : Prop := H.length <= H'.length /\ ∀ a, a < H.length -> a ∉ F -> ag H' a = ag H a
theorem cR {H : AH} {a : Nat} {o : ar} (h : ag H a = some o) : a < H.length := (bG.mp h).1
theorem fU {H : AH} {a : Nat} {o o' : ar} (h : ag H a = some o') : ag (H.set a o) a = some o := by
 simp [ag, cR h]
theorem dI {H : AH} {a b : Nat} {o : ar} (h : a ≠ b) : ag (H.set a o) b = ag H b := by
 simp [ag, qQ h]
theorem eY {H : AH} {a : Nat} {X : AH} (h : a < H.length) : ag (H ++ X) a = ag H a := by
 simp [ag, gY h]
theorem Fr.refl (F : List Nat) (H : AH) : Fr F H H := ⟨bq _, fun u' u' u' => rfl⟩
theorem Fr.set {F : List Nat} {H H' : AH} (f : Fr F H H') {a : Nat} {o : ar} (h : a ∈ F \/ H.length <= a) : Fr F H (H'.set a o) :=
 ⟨by simp; exact f.1, fun b hb nb => by
  rw [dI (fun e => by subst e; rcases h with h | h; exact nb h; trivial)]; exact f.2 b hb nb⟩
theorem Fr.app {F : List Nat} {H H' : AH} (f : Fr F H H') (X : AH) : Fr F H (H' ++ X) :=
 ⟨by simp; have := f.1; trivial, fun b hb nb => by rw [eY (cH hb f.1)]; exact f.2 b hb nb⟩
theorem Fr.trans {F F' : List Nat} {H H' Tc : AH} (f : Fr F H H') (g : Fr F' H' Tc) (h : ∀ a ∈ F', a ∈ F \/ H.length <= a) : Fr F H Tc :=
 ⟨cY f.1 g.1, fun a ha na => by
  rw [g.2 a (cH ha f.1) (fun m => by rcases h a m with h | h; exact na h; trivial)]; exact f.2 a ha na⟩
theorem Bh {H : AH} {l : List Nat} {os : List ar} (h : l.map (ag H) = os.map some) {i a : Nat} (hi : l[i]? = some a) : ∃ o, os[i]? = some o /\ ag H a = some o := by
 have e := congrArg (fun l => l[i]?) h
 simp only [cM, hi, dN] at e
 obtain ⟨o, e1, e2⟩ := oD.mp e.symm
 exact ⟨o, e1, e2.symm⟩
theorem p5 {H : AH} {l : List Nat} {os : List ar} (h : l.map (ag H) = os.map some) : ∀ a ∈ l, a < H.length := fun a ha => by
 obtain ⟨i, hi⟩ := ju.mp ha
 obtain ⟨o, _, e⟩ := Bh h hi
 exact cR e
theorem PB {H : AH} {l : List Nat} {os : List ar} (h : l.map (ag H) = os.map some) {i : Nat} (hi : l[i]? = none) : os[i]? = none := by
 have e := congrArg t0 h
 rw [aM, aM] at e
 rw [Dz] at hi ⊢
 rw [<-e]; exact hi
theorem jb {H : AH} {l : List Nat} {os : List ar} (h : l.map (ag H) = os.map some) (nd : l.Nodup) {k a : Nat} (hk : l[k]? = some a) (o : ar) : l.map (ag (H.set a o)) = (os.set k o).map some := by
 refine oX fun i => ?_
 rw [cM, cM]
 cases hl : l[i]? with
 | none => rw [Dz.mpr]; rfl; rw [mZ]; exact Dz.mp (PB h hl)
 | some b =>
  obtain ⟨o', e1, e2⟩ := Bh h hl
  by_cases q : k = i
  ·have : b = a := aC (hl.symm.trans (q ▸ hk))
   rw [<-q, kf (q ▸ (bG.mp e1).1), this]
   exact congrArg some (fU (this ▸ e2))
  ·rw [qQ q, e1]
   refine congrArg some ((dI fun z => q ?_).trans e2)
   have h1 := (bG.mp hk).1
   exact (Rj h1 nd).mp (hk.trans (z ▸ hl.symm))
theorem Ba {l : List Nat} (nd : l.Nodup) {v : Nat} (k : Nat) (hv : v ∉ l) : (l.set k v).Nodup := by
 induction l generalizing k with
 | nil => exact m8
 | cons x r ih =>
  obtain ⟨n1, n2⟩ := dh.mp nd
  cases k with
  | zero => exact dh.mpr ⟨fun m => hv (aQ _ m), n2⟩
  | succ k =>
   refine dh.mpr ⟨fun m => ?_, ih n2 k fun m => hv (aQ _ m)⟩
   rcases oY m with z | z
   ·exact n1 z
   ·exact hv (z ▸ aL)
theorem vJ {H : AH} {l : List Nat} {os : List ar} (h : l.map (ag H) = os.map some) (nd : l.Nodup) (k : Nat) (o : ar) : (l.set k H.length).map (ag (H ++ [o])) = (os.set k o).map some /\ (l.set k H.length).Nodup := by
 refine ⟨?_, Ba nd k fun m => eR _ (p5 h _ m)⟩
 rw [kq, kq, <-h]
 have e1 : ag (H ++ [o]) H.length = some o := iG _ _
 rw [e1]
 exact congrArg (fun z => DA z k (some o)) (oM fun a ha => eY (p5 h a ha))
noncomputable def Aj (y : aO) (st : St) : List ar := [.inst 1 y.ats, .attrs (dW y st), .list (st.doms.map mV), .list (st.firsts.map mV), .list (st.trail.map cV), .list (st.marks.map az), .dict st.news]
section
variable {H H' : AH} {S : Nat} {y : aO} {st : St}
theorem aB.laid (h : aB H S y st) : (y.foot S).map (ag H) = (Aj y st).map some := by
 show [ag H S, ag H y.ats, ag H y.dom, ag H y.fst, ag H y.trl, ag H y.mrk, ag H y.nws] = _
 rw [h.inst, h.attrs, h.dom, h.fst, h.trl, h.mrk, h.nws]; rfl
theorem aB.of (h : (y.foot S).map (ag H) = (Aj y st).map some) (nd : (y.foot S).Nodup) : aB H S y st :=
 have g := fun i : Nat => congrArg (fun l => l[i]?) h
 ⟨aC (g 0), aC (g 1), aC (g 2), aC (g 3), aC (g 4), aC (g 5), aC (g 6), nd⟩
theorem aB.lt (h : aB H S y st) : ∀ a ∈ y.foot S, a < H.length := p5 h.laid
theorem aB.frame (h : aB H S y st) (f : ∀ a ∈ y.foot S, ag H' a = ag H a) : aB H' S y st := .of ((oM f).trans h.laid) h.nd
end
def cI (H : AH) (S : Nat) (y : aO) (H' : AH) (st' : St) : Prop := ∃ y', aB H' S y' st' /\ Fr (y.foot S) H H' /\ ∀ a ∈ y'.foot S, a ∈ y.foot S \/ H.length <= a
theorem cI.refl {H : AH} {S : Nat} {y : aO} {st : St} (h : aB H S y st) : cI H S y H st := ⟨y, h, Fr.refl _ _, fun u' m => .inl m⟩
section
variable {H H' : AH} {S : Nat} {y : aO} {st st' : St}
theorem wD (h : aB H S y st) (ds : List M) : aB (H.set y.dom (.list (ds.map mV))) S y { st with doms := ds } := .of (jb h.laid h.nd (k := 2) rfl _) h.nd
theorem Hp (h : aB H S y st) (ds : List M) : aB (H.set y.fst (.list (ds.map mV))) S y { st with firsts := ds } := .of (jb h.laid h.nd (k := 3) rfl _) h.nd
theorem z5 (h : aB H S y st) (ds : List bW) : aB (H.set y.trl (.list (ds.map cV))) S y { st with trail := ds } := .of (jb h.laid h.nd (k := 4) rfl _) h.nd
theorem Gh (h : aB H S y st) (ds : List Nat) : aB (H.set y.mrk (.list (ds.map az))) S y { st with marks := ds } := .of (jb h.laid h.nd (k := 5) rfl _) h.nd
theorem Jq (h : aB H S y st) (ds : List (Int × V)) : aB (H.set y.nws (.dict ds)) S y { st with news := ds } := .of (jb h.laid h.nd (k := 6) rfl _) h.nd
theorem rn (h : aB H S y st) (f : Bool) (c : List V) : aB (H.set y.ats (.attrs (dW y { st with failed := f, clash := c }))) S y { st with failed := f, clash := c } := .of (jb h.laid h.nd (k := 1) rfl _) h.nd
theorem AU (h : aB H S y st) : aB ((H ++ [ar.dict []]).set y.ats (.attrs (dW { y with nws := H.length } st))) S { y with nws := H.length } { st with news := [] } :=
 have n := vJ h.laid h.nd 6 (ar.dict [])
 .of (jb n.1 n.2 (k := 1) rfl _) n.2
theorem HL (h : aB H S y st) (ds : List Nat) : aB ((H ++ [ar.list (ds.map az)]).set y.ats (.attrs (dW { y with mrk := H.length } st))) S { y with mrk := H.length } { st with marks := ds } :=
 have n := vJ h.laid h.nd 5 (ar.list (ds.map az))
 .of (jb n.1 n.2 (k := 1) rfl _) n.2
theorem cI.step (g : cI H S y H' st) {H2 : AH} (k : ∀ y', aB H' S y' st -> ∃ y2, aB H2 S y2 st' /\ Fr (y'.foot S) H' H2 /\ ∀ a ∈ y2.foot S, a ∈ y'.foot S \/ H'.length <= a) : cI H S y H2 st' := by
 obtain ⟨y1, s1, f1, m1⟩ := g
 obtain ⟨y2, s2, f2, m2⟩ := k y1 s1
 exact ⟨y2, s2, f1.trans f2 m1, fun a ha => by
  rcases m2 a ha with q | q
  ·exact m1 a q
  ·exact .inr (cY f1.1 q)⟩
theorem cI.trans (h : aB H S y st) {S7 Sv : St} {H1 H2 : AH} {y1 : aO} (h1 : aB H1 S y1 S7) (f1 : Fr (y.foot S) H H1) (m1 : ∀ a ∈ y1.foot S, a ∈ y.foot S \/ H.length <= a) (g : cI H1 S y1 H2 Sv) : cI H S y H2 Sv := by
 obtain ⟨y2, s2, f2, m2⟩ := g
 exact ⟨y2, s2, f1.trans f2 m1, fun a ha => by
  rcases m2 a ha with q | q
  ·exact m1 a q
  ·exact .inr (cY f1.1 q)⟩
theorem iK {H H' : AH} (e : H'.take H.length = H) {a : Nat} (ha : a < H.length) : ag H' a = ag H a := by
 conv => rhs; rw [<-e]
 simp [ag, tP, ha]
theorem aB.same (h : aB H S y st) {y' : aO} (h' : aB H' S y' st') (e : ∀ a < H.length, ag H' a = ag H a) : y' = y := by
 have e1 := aC (h'.inst.symm.trans ((e _ (cR h.inst)).trans h.inst))
 have e1 : y'.ats = y.ats := (ar.inst.inj e1).2
 have e2 := h'.attrs
 rw [e1, e _ (cR h.attrs), h.attrs] at e2
 have g := fun i : Nat => congrArg (fun l => l[i]?) (ar.attrs.inj (aC e2))
 have r : ∀ {a b : Nat}, some (some (V.ref a)) = some (some (V.ref b)) -> a = b := fun z => V.ref.inj (aC (aC z))
 show aO.mk y'.ats y'.dom y'.fst y'.trl y'.mrk y'.nws = aO.mk y.ats y.dom y.fst y.trl y.mrk y.nws
 rw [e1, <-r (g 0), <-r (g 1), <-r (g 2), <-r (g 3), <-r (g 4)]
theorem cI.drop (h : aB H S y st) (g : cI H S y H' st') (e : H'.take H.length = H) : cI H S y H st' := by
 obtain ⟨y', s', f, m⟩ := g
 have hs := h.same s' fun a ha => iK e ha
 subst hs
 exact ⟨y', s'.frame (fun a ha => (iK e (h.lt a ha)).symm), Fr.refl _ _, fun u' q => .inl q⟩
set_option tactic.hygienic true in
theorem hZ (h : aB H S y st) (g : cI H S y H' st') {v : V} {Q : V -> AH -> Prop} (q : ∀ H', cI H S y H' st' -> Q v H') : cO H Q v H' := by
 unfold cO
 split
 ·rename_i z
  simp only [eU, decide_eq_true_eq] at z
  exact q _ (g.drop h z.2)
 ·exact q _ g
end
end
section
noncomputable def St.dom (st : St) (x : Nat) : M := st.doms.getD x 0
theorem BN {ds : List M} {x : Nat} (h : x < ds.length) : fE (ds.map mV) (x : Int) = some (mV (ds.getD x 0)) := by
 rw [jw, cM, bR h]
 simp [ug, bR h]
theorem iD {H : AH} {i : Nat} {l : List V} {k : Int} (h : ag H i = some (.list l)) : cf H (.ref i) (.int k) = fE l k := by
 simp [cf, h]
theorem A8 {H : AH} {l : List V} {k : Int} : cf H (.lst l) (.int k) = fE l k := rfl
theorem fG {H : AH} (l : aj) : cf H (au l) (.int 0) = some (.int l.x) := rfl
noncomputable def dL (st : St) (l : aj) (why sp : V) : St := { st with trail := st.trail ++ [⟨l.x, st.dom l.x, l, why, sp⟩], doms := st.doms.set l.x (st.dom l.x &&& l.m), news := dictPut st.news l.x (.bool true) }
noncomputable def oy (st : St) (c : List V) : St := { st with failed := true, clash := c }
theorem rK {α : Type} {l : List α} {k : Nat} {x : α} (h : l[k]? = some x) : l.set k x = l := by
 obtain ⟨_, e⟩ := bG.mp h
 rw [<-e]; exact List.set_getElem_self _
theorem eZ {H : AH} {a : Nat} {l : List V} (h : ag H a = some (.list l)) : dq H .len [.ref a] = some (.int l.length, H) := by
 show (eB (ag H a)).map _ = _
 rw [h]; rfl
theorem n9 {H : AH} {a p : Nat} {l : List V} {v : V} (h : ag H a = some (.list l)) (hp : p < l.length) : gL H (.ref a) (.int p) v = some (H.set a (.list (l.set p v))) := by
 have e : (decide (0 <= ((p : Nat) : Int)) && decide (((p : Nat) : Int) < ((l.length : Nat) : Int))) = true := bk.mpr ⟨decide_eq_true (tw p), decide_eq_true (lj.mpr hp)⟩
 show iW (ag H a) _ _ = _
 rw [h]
 exact if_pos e
theorem jC {H : AH} {i : Nat} {l : List V} {v : V} (h : l.length < 4096) : dB H i l 0 [v] = some (.none, H.set i (.list (l ++ [v]))) := sH.trans (if_pos h)
theorem Ee {H : AH} {a : Nat} {k : Int} {l : List (Int × V)} {v : V} (h : ag H a = some (.dict l)) (hp : l.length < 4096) : gL H (.ref a) (.int k) v = some (H.set a (.dict (dictPut l k v))) := by
 show iW (ag H a) _ _ = _
 rw [h]
 exact if_pos hp
section
variable {n : Nat} {H : AH} {S : Nat} {y : aO} {st : St} {Q : V -> AH -> Prop}
theorem aB.mm (h : aB H S y st) {c : PC} {es : T c9} {m f : Nat} {loc : Loc} (e : cP 1 m = some f) (q : es loc H (kMi4 c f S Q)) : gO (ag H S) (kM cy c es S m loc H Q) := eO h.inst (eO h.attrs (ab e q))
theorem aB.attr (h : aB H S y st) {k : Nat} {v : V} (e : (dW y st)[k]? = some (some v)) : eP H (.ref S) k = some v := by
 show kY (ag H S) _ = _
 rw [h.inst]
 show kJ (ag H y.ats) _ = _
 rw [h.attrs]
 show jn _ = _
 rw [e]; rfl
theorem aB.put (h : aB H S y st) {k : Nat} {v : V} : iZ H (.ref S) k v = some (H.set y.ats (.attrs ((dW y st).set k (some v)))) := by
 show kY (ag H S) _ = _
 rw [h.inst]
 show kJ (ag H y.ats) _ = _
 rw [h.attrs]; rfl
theorem aB.subd (h : aB H S y st) {x : Nat} (hx : x < st.doms.length) : cf H (.ref y.dom) (.int x) = some (mV (st.dom x)) := (iD h.dom).trans (BN hx)
theorem Mj (h : aB H S y st) {l : aj} (hw : l.wide) (hx : l.x < st.doms.length) : WC (n + 46) 35 [.ref S, au l] H Q ↔ Q (.int (fo (st.dom l.x) l)) H := by
 refine d7 ?_
 exact bD (f := 35) rfl rfl (ab (h.attr rfl) (ab (fG _) (ab (h.subd hx) ((wS (n := n + 3) hw).mpr (cx (Q := fun x H' => x = V.int (fo (st.dom l.x) l) /\ H' = H) ⟨rfl, rfl⟩)))))
theorem MO (h : aB H S y st) {x : Nat} (hx : x < st.firsts.length) : WC (n + 10) 33 [.ref S, .int x] H Q ↔ Q (mV (st.firsts.getD x 0)) H := by
 refine d7 ?_
 exact bD (f := 33) rfl rfl (ab (h.attr rfl) (ab ((iD h.fst).trans (BN hx)) (cx (Q := fun x' H' => x' = mV (st.firsts.getD x 0) /\ H' = H) ⟨rfl, rfl⟩)))
theorem pZ (h : aB H S y st) : WC (n + 10) 42 [.ref S] H Q ↔ Q (.int st.marks.length) H := by
 refine d7 ?_
 exact bD (f := 42) rfl rfl (ab (h.attr rfl) (aK (eZ h.mrk) (cx (Q := fun x' H' => x' = V.int st.marks.length /\ H' = H) ⟨congrArg (fun k : Nat => V.int k) (aM _), rfl⟩)))
theorem FH : ∀ m : M, ∀ v : Fin 4, decide (g8 (fe m) (v.val : Int) = some (v.val : Int)) = m.getLsbD v.val := by decide +kernel
theorem Kc (h : aB H S y st) {x : Nat} (hx : x < st.doms.length) {v : Nat} (hv : v < 4) : WC (n + 26) 34 [.ref S, .int x, .int v] H Q ↔ Q (.bool ((st.dom x).getLsbD v)) H := by
 refine d7 ?_
 exact bD (f := 34) rfl rfl (ab (h.attr rfl) (ab (h.subd hx) ((II (n := n + 7)).mpr (cx (Q := fun x' H' => x' = V.bool ((st.dom x).getLsbD v) /\ H' = H) ⟨congrArg V.bool (FH (st.dom x) ⟨v, hv⟩), rfl⟩))))
theorem AJ (h : aB H S y st) {r : V} {l : List V} (hr : ∀ H1 : AH, (∀ a, a ≠ y.ats -> ag H1 a = ag H a) -> dF H1 r = some l) (q : ∀ H', cI H S y H' (oy st l) -> Q (.bool false) H') : WC (n + 10) 39 [.ref S, r] H Q := by
 have h1 := rn h true st.clash
 have p1 : iZ H (.ref S) 6 (.bool true) = some (H.set y.ats (.attrs (dW y { st with failed := true, clash := st.clash }))) := h.put
 have Z3 := congrArg (kn fun l => (V.tup l, H.set y.ats (.attrs (dW y { st with failed := true, clash := st.clash })))) (hr (H.set y.ats (.attrs (dW y { st with failed := true, clash := st.clash }))) fun a ha => dI (lD ha))
 have m : y.ats ∈ y.foot S := aQ _ aL
 exact bD (f := 39) rfl rfl (ab p1 (aK Z3 (ab h1.put (hZ h ⟨y, rn h1 true l, ((Fr.refl _ _).set (.inl m)).set (.inl m), fun u' m => .inl m⟩ q))))
noncomputable def vA : V -> List V
 | .tup l => l
 | _ => []
def Nq (r : V) : Prop := r = .none \/ ∃ l, r = .tup l /\ l.length < 4000
theorem mvT {H : AH} {a b : M} (h : a = b) : bF H .eq (mV a) (mV b) = some true := (sW _ _).trans (congrArg some (decide_eq_true h))
theorem vi {H : AH} {a b : M} (h : ¬ a = b) : bF H .eq (mV a) (mV b) = some false := (sW _ _).trans (congrArg some (decide_eq_false h))
theorem zE (h : aB H S y st) {l : aj} (hw : l.ok) (hx : l.x < st.doms.length) {r sp : V} (hr : Nq r) (ht : st.trail.length < 4096) (hn : st.news.length < 4096)
  (q0 : st.dom l.x &&& l.m = 0 -> ∀ H', cI H S y H' (oy st (vA r ++ [au (neg l)])) -> Q (.bool false) H')
  (q1 : ¬ st.dom l.x &&& l.m = 0 -> st.dom l.x &&& l.m = st.dom l.x -> Q (.bool true) H)
  (q2 : ¬ st.dom l.x &&& l.m = 0 -> ¬ st.dom l.x &&& l.m = st.dom l.x -> ∀ H', cI H S y H' (dL st l r sp) -> Q (.bool true) H') : WC (n + 60) 36 [.ref S, au l, r, sp] H Q := by
 refine bD (f := 36) rfl rfl (ab (fG _) (ab (h.attr rfl) (ab (h.subd hx) ((vF (n := n + 27) hw.wide).mpr ?_))))
 by_cases c0 : st.dom l.x &&& l.m = 0
 ·have Sk : WC (n + 56) 39 [.ref S, .tup (vA r ++ [au (neg l)])] H (cO H Q) := AJ (n := n + 46) (l := vA r ++ [au (neg l)]) h (fun u' u' => rfl) fun H' g => hZ h g (q0 c0)
  clear q0 q1 q2
  refine ab (mvT (b := 0) c0) (h.mm tm_1_23 ?_)
  rcases hr with rfl | ⟨rl, rfl, Z1⟩
  ·exact ab rfl ((p0 (n := n + 41)).mpr (aK rfl Sk))
  ·exact ab rfl ((p0 (n := n + 41)).mpr (aK (if_pos (wZ (n1 Z1 rfl : rl.length < 4095) 1)) Sk))
 ·refine ab (vi (b := 0) c0) ?_
  by_cases c1 : st.dom l.x &&& l.m = st.dom l.x
  ·exact ab (mvT c1) (cx (q1 c0 c1))
  ·have h1 := z5 h (st.trail ++ [⟨l.x, st.dom l.x, l, r, sp⟩])
   have h2 := wD h1 (st.doms.set l.x (st.dom l.x &&& l.m))
   have t1 : dB H y.trl (st.trail.map cV) 0 [cV ⟨l.x, st.dom l.x, l, r, sp⟩] = some (.none, H.set y.trl (.list ((st.trail ++ [(⟨l.x, st.dom l.x, l, r, sp⟩ : bW)]).map cV))) := (jC (by rw [aM]; exact ht)).trans (by rw [eJ]; rfl)
   have t2 := (n9 (v := mV (st.dom l.x &&& l.m)) h1.dom (by rw [aM]; exact hx)).trans (congrArg (fun z => some (DA _ y.dom (ar.list z))) kq.symm)
   have m : ∀ k a, (y.foot S)[k]? = some a -> a ∈ y.foot S := fun k a => aT
   exact ab (vi c1) (ab (h.attr rfl) (eO h.trl (fh h.trl (aK t1 (ab (h1.attr rfl) (ab t2 (ab (h2.attr rfl) (ab (Ee h2.nws hn) (hZ h ⟨y, Jq h2 _, (((Fr.refl (y.foot S) H).set (.inl (m 4 _ rfl))).set (.inl (m 2 _ rfl))).set (.inl (m 6 _ rfl)), fun u' m => .inl m⟩ (q2 c0 c1))))))))))
end
end
section
section
variable {n : Nat} {H : AH} {S : Nat} {y : aO} {st : St} {Q : V -> AH -> Prop}
theorem qe {S a k c : Nat} {v : V} {l : List (Option V)} (h1 : ag H S = some (.inst c a)) (h2 : ag H a = some (.attrs l)) : iZ H (.ref S) k v = some (H.set a (.attrs (l.set k (some v)))) := by
 show kY (ag H S) _ = _
 rw [h1]
 show kJ (ag H a) _ = _
 rw [h2]; rfl
theorem je {k a : Nat} (h : (y.foot S)[k]? = some a) : a ∈ y.foot S := aT h
theorem zh {k : Nat} : ∀ a ∈ aO.foot S { y with nws := k }, a ∈ y.foot S \/ a = k := fun u' m => oY (l := y.foot S) (i := 6) m
theorem BH {k : Nat} : ∀ a ∈ aO.foot S { y with mrk := k }, a ∈ y.foot S \/ a = k := fun u' m => oY (l := y.foot S) (i := 5) m
theorem D1 (h : aB H S y st) {l : aj} (hw : l.ok) (hx : l.x < st.doms.length) {rs : List V} (hr : rs.length < 4000) (ht : st.trail.length < 4096) (hn : st.news.length < 4096)
  (q0 : st.dom l.x &&& l.m = 0 -> ∀ H', cI H S y H' (oy st (rs ++ [au (neg l)])) -> Q (.bool false) H')
  (q1 : ¬ st.dom l.x &&& l.m = 0 -> st.dom l.x &&& l.m = st.dom l.x -> Q (.bool true) H)
  (q2 : ¬ st.dom l.x &&& l.m = 0 -> ¬ st.dom l.x &&& l.m = st.dom l.x -> ∀ H', cI H S y H' (dL st l (.tup rs) (.int (-1))) -> Q (.bool true) H') : WC (n + 66) 37 [.ref S, au l, .tup rs] H Q :=
 bD (f := 37) rfl rfl (h.mm tm_1_20 (aK rfl (ab (h.attr rfl) (zE (n := n + 3) h hw hx (.inr ⟨rs, rfl, hr⟩) ht hn (fun c H' g => hZ (Q := Q) h g (q0 c)) (fun c c' => cx (Q := Q) (q1 c c')) fun c c' H' g => hZ (Q := Q) h g (q2 c c')))))
theorem Ml (h : aB H S y st) {l : aj} (hw : l.ok) (hx : l.x < st.doms.length) (ht : st.trail.length < 4096) (hn : st.news.length < 4096)
  (q0 : st.dom l.x &&& l.m = 0 -> ∀ H', cI H S y H' (oy st [au (neg l)]) -> Q (.bool false) H')
  (q1 : ¬ st.dom l.x &&& l.m = 0 -> st.dom l.x &&& l.m = st.dom l.x -> Q (.bool true) H)
  (q2 : ¬ st.dom l.x &&& l.m = 0 -> ¬ st.dom l.x &&& l.m = st.dom l.x -> ∀ H', cI H S y H' (dL st l .none (.int (-1))) -> Q (.bool true) H') : WC (n + 66) 38 [.ref S, au l] H Q :=
 bD (f := 38) rfl rfl (h.mm tm_1_20 (zE (n := n + 3) h hw hx (.inl rfl) ht hn (fun c H' g => hZ (Q := Q) h g (q0 c)) (fun c c' => cx (Q := Q) (q1 c c')) fun c c' H' g => hZ (Q := Q) h g (q2 c c')))
theorem Bn (h : aB H S y st) (hm : st.marks.length < 4096) (q : ∀ H', cI H S y H' { st with marks := st.marks ++ [st.trail.length] } -> Q .none H') : WC (n + 12) 40 [.ref S] H Q := by
 have t1 : dB H y.mrk (st.marks.map az) 0 [.int ((st.trail.map cV).length : Nat)] = some (.none, H.set y.mrk (.list ((st.marks ++ [st.trail.length]).map az))) := (jC (by rw [aM]; exact hm)).trans (by rw [eJ, aM]; rfl)
 exact bD (f := 40) rfl rfl (ab (h.attr rfl) (eO h.mrk (ab (h.attr rfl) (aK (eZ h.trl) (fh h.mrk (aK t1 (hZ (Q := Q) h ⟨y, Gh h _, (Fr.refl (y.foot S) H).set (.inl (je (k := 5) rfl)), fun u' m => .inl m⟩ q)))))))
theorem cI.nws (h : aB H S y st) : cI H S y ((H ++ [ar.dict []]).set y.ats (.attrs (dW { y with nws := H.length } st))) { st with news := [] } :=
 ⟨_, AU h, ((Fr.refl (y.foot S) H).app _).set (.inl (je (k := 1) rfl)), fun a m => (zh a m).imp id fun e => j3 e.symm⟩
theorem yO (h : aB H S y st) (hn : st.news.length < 5) (q : ∀ H', cI H S y H' { st with news := [] } -> Q (.lst (cq (st.news.map fun p => .int p.1))) H') : WC (n + 12) 43 [.ref S] H Q := by
 have e1 : ag (H ++ [ar.dict []]) S = some (.inst 1 y.ats) := (eY (cR h.inst)).trans h.inst
 have e2 : ag (H ++ [ar.dict []]) y.ats = some (.attrs (dW y st)) := (eY (cR h.attrs)).trans h.attrs
 have e3 : dq H .sorted [.ref y.nws] = some (.lst (cq (st.news.map fun p => .int p.1)), H) := by
  rw [bi_sref, h.nws]; exact if_pos (decide_eq_true hn)
 exact bD (f := 43) rfl rfl (ab (h.attr rfl) (aK e3 (ab (qe e1 e2) (hZ (Q := Q) h (cI.nws h) q))))
end
end
section
noncomputable def jc (Sa : List bW) (ds : List M) : List M := Sa.foldr (fun e ds => ds.set e.x e.old) ds
theorem Pg (Sa : List bW) (e : bW) (ds : List M) : jc (Sa ++ [e]) ds = jc Sa (ds.set e.x e.old) := by
 simp [jc]
theorem p6 {H : AH} (e : bW) : cf H (cV e) (.int 0) = some (.int e.x) := rfl
theorem yG {H : AH} (e : bW) : cf H (cV e) (.int 1) = some (mV e.old) := rfl
theorem AM {H : AH} (e : bW) : cf H (cV e) (.int 2) = some (au e.lit) := rfl
theorem NO {m : Nat} : fN (some (.int m)) = some (some m) := by
 show (if (0 : Int) <= ((m : Nat) : Int) then some (some ((m : Nat) : Int).toNat) else Option.none) = _
 exact if_pos (tw m)
theorem Ff {α : Type} {p : List α -> Prop} (l : List α) (h0 : p []) (h1 : ∀ l a, p l -> p (l ++ [a])) : p l := by
 have : ∀ r : List α, p r.reverse := fun r => by
  induction r with
  | nil => exact h0
  | cons a r ih => rw [oO]; exact h1 _ _ ih
 simpa using this l.reverse
section
variable {n : Nat} {H : AH} {S : Nat} {y : aO} {st : St} {Q : V -> AH -> Prop}
theorem KS {keep : List bW} {k : Int} {Qx : KX} (Sa : List bW) : ∀ (H : AH) (st : St) (x : Option V), aB H S y st -> st.trail = keep ++ Sa -> (∀ e ∈ Sa, e.x < st.doms.length) →
  (∀ x' H', aB H' S y { st with trail := keep, doms := jc Sa st.doms } -> Fr (y.foot S) H H' -> Qx .next [some (.ref S), some (.int k), some (.int (keep.length : Nat)), x'] H') →
  WX (n + Sa.length + 14) uU [some (.ref S), some (.int k), some (.int (keep.length : Nat)), x] H Qx := by
 refine Ff (p := fun Sa => ∀ (H : AH) (st : St) (x : Option V), aB H S y st -> st.trail = keep ++ Sa -> (∀ e ∈ Sa, e.x < st.doms.length) →
  (∀ x' H', aB H' S y { st with trail := keep, doms := jc Sa st.doms } -> Fr (y.foot S) H H' -> Qx .next [some (.ref S), some (.int k), some (.int (keep.length : Nat)), x'] H') →
  WX (n + Sa.length + 14) uU [some (.ref S), some (.int k), some (.int (keep.length : Nat)), x] H Qx) Sa ?_ ?_
 ·intro H st x h ht hx q
  rw [im] at ht
  have c : ¬ (((st.trail.map cV).length : Nat) : Int) > (keep.length : Nat) := by rw [aM, ht]; exact mU _
  exact rM (ab (h.attr rfl) (aK (eZ h.trl) (ab (congrArg some (decide_eq_false c)) (q x H (ht ▸ h) (Fr.refl _ _)))))
 ·intro Sa e ih H st x h ht hx q
  have WV : st.trail = (keep ++ Sa) ++ [e] := ht.trans (fL _ _ _).symm
  have c : (((st.trail.map cV).length : Nat) : Int) > (keep.length : Nat) := by
   rw [aM, WV, dg, dg]; exact lj.mpr (wY (j4 _ _))
  have t1 : dB H y.trl (st.trail.map cV) 2 [] = some (cV e, H.set y.trl (.list ((keep ++ Sa).map cV))) := by
   rw [uK, WV, eJ, List.map_singleton, List.getLast?_concat, List.dropLast_concat]; rfl
  have h1 := z5 h (keep ++ Sa)
  have t2 := (n9 (p := e.x) (v := mV e.old) h1.dom (by rw [aM]; exact hx e (be _ aL))).trans (congrArg (fun z => some (DA _ y.dom (ar.list z))) kq.symm)
  have h2 := wD h1 (st.doms.set e.x e.old)
  rw [show n + (Sa ++ [e]).length + 14 = n + Sa.length + 14 + 1 by rw [dg]; exact DB (n + Sa.length) 1 14]
  refine rM (ab (h.attr rfl) (aK (eZ h.trl) (ab (congrArg some (decide_eq_true c)) (ab (h.attr rfl) (eO h.trl (fh h.trl (aK t1 (ab (yG e) (ab (h1.attr rfl) (ab (p6 e) (ab t2 (wE (n := n + Sa.length + 14) (ih _ _ _ h2 rfl (fun z hz => ?_) fun x' H' hs hf => ?_)))))))))))))
  ·exact uf (hx z (aV _ hz)) mZ.symm
  ·rw [Pg] at q
   exact q x' H' hs ((((Fr.refl (y.foot S) H).set (.inl (je (k := 4) rfl))).set (.inl (je (k := 2) rfl))).trans hf fun a m => .inl m)
noncomputable def fT (st : St) (k : Nat) : St := { st with marks := st.marks.take (st.marks.length - k), trail := st.trail.take (st.marks.getD (st.marks.length - k) 0), doms := jc (st.trail.drop (st.marks.getD (st.marks.length - k) 0)) st.doms, news := [], failed := decide ((0 : M) ∈ st.firsts), clash := [] }
theorem Ku (l : List M) : gT (.tup []) (l.map mV) = some (decide ((0 : M) ∈ l)) := by
 have h1 : aI 8 (.tup []) = true := rfl
 have h2 : (l.map mV).all (aI 8) = true := by
  rw [DC, bJ]; intro x _; exact uH 6 x
 unfold gT
 rw [h1, h2]
 have : V.tup [] ∈ l.map mV ↔ (0 : M) ∈ l := by
  rw [bg]
  constructor
  ·rintro ⟨a, ha, e⟩; rw [JA] at e; exact e ▸ ha
  ·intro h; exact ⟨0, h, rfl⟩
 simp [this]
theorem Cr (h : aB H S y st) {k : Nat} (hk : 1 <= k) (Ta : k <= st.marks.length) (hm : st.marks.getD (st.marks.length - k) 0 <= st.trail.length) (ht : st.trail.length <= 20) (hx : ∀ e ∈ st.trail, e.x < st.doms.length) (q : ∀ H', cI H S y H' (fT st k) -> Q .none H') : WC (n + 50) 41 [.ref S, .int k] H Q := by
 have k1 : ¬ (k : Int) < 1 := j9.mpr (qI.mpr hk)
 have e0 : (((st.marks.map az).length : Nat) : Int) - (k : Int) = ((st.marks.length - k : Nat) : Int) := by rw [aM]; exact (Rk Ta).symm
 have lt : st.marks.length - k < st.marks.length := Cw (cH hk Ta) hk
 have g1 : cf H (.ref y.mrk) (.int ((((st.marks.map az).length : Nat) : Int) - (k : Int))) = some (.int ((st.marks.getD (st.marks.length - k) 0 : Nat) : Int)) := by
  rw [iD h.mrk, e0, jw, cM, ug, bR lt]; rfl
 have g2 : fN (some (.int ((((st.marks.map az).length : Nat) : Int) - (k : Int)))) = some (some (st.marks.length - k)) := by rw [e0]; exact NO
 have Yi : (st.marks.take (st.marks.length - k)).map az = d6 (st.marks.map az) none (some (st.marks.length - k)) := Rm
 have h1 := HL h (st.marks.take (st.marks.length - k))
 unfold fT at q
 generalize st.marks.getD (st.marks.length - k) 0 = mk at *
 have SZ : (st.trail.take mk).length = mk := by rw [qP, oC hm]
 rw [Yi] at h1
 have a1 : ag (H ++ [ar.list (d6 (st.marks.map az) none (some (st.marks.length - k)))]) S = some (.inst 1 y.ats) := (eY (cR h.inst)).trans h.inst
 have a2 : ag (H ++ [ar.list (d6 (st.marks.map az) none (some (st.marks.length - k)))]) y.ats = some (.attrs (dW y st)) := (eY (cR h.attrs)).trans h.attrs
 have f1 : Fr (y.foot S) H ((H ++ [ar.list (d6 (st.marks.map az) none (some (st.marks.length - k)))]).set y.ats (.attrs (dW { y with mrk := H.length } st))) := ((Fr.refl _ _).app _).set (.inl (je (k := 1) rfl))
 have ih := fun Qx => KS (n := n + (20 - (st.trail.drop mk).length) + 15) (S := S) (y := { y with mrk := H.length }) (keep := st.trail.take mk) (k := (k : Int)) (Qx := Qx) (st.trail.drop mk) _ _ none h1 (ub _ _).symm (fun e he => hx e (xT he))
 have W1 : (st.trail.drop mk).length <= 20 := by rw [mX]; exact cY (mI _ _) ht
 rw [SZ, show n + (20 - (st.trail.drop mk).length) + 15 + (st.trail.drop mk).length + 14 = n + 49 by rw [DB _ 15, mL n, tu W1]] at ih
 refine bD (f := 41) rfl rfl (ab (congrArg some (decide_eq_false k1)) (ab (h.attr rfl) (ab (h.attr rfl) (aK (eZ h.mrk) (aK rfl (ab g1 (ab (h.attr rfl) (ab (h.attr rfl) (aK (eZ h.mrk) (aK rfl (ab (congrArg eB h.mrk) (ab rfl (ab g2 (ab (qe a1 a2) (wE (n := n + 49) (ih _ fun x' H1 h2 f2 => ?_))))))))))))))))
 have h3 := AU h2
 have b1 : ag (H1 ++ [ar.dict []]) S = some (.inst 1 y.ats) := (eY (cR h2.inst)).trans h2.inst
 have b2 : ag (H1 ++ [ar.dict []]) y.ats = some (.attrs (dW { y with mrk := H.length } _)) := (eY (cR h2.attrs)).trans h2.attrs
 have h4 := rn h3 (decide ((0 : M) ∈ st.firsts)) st.clash
 have e5 := fun H' (z : ag H' y.fst = some (.list (st.firsts.map mV))) => (show bF H' .isin (.tup []) (.ref y.fst) = some (decide ((0 : M) ∈ st.firsts)) by show (eB (ag H' y.fst)).bind _ = _; rw [z]; exact Ku _)
 have f3 := fun X o1 o2 o3 => (((f2.app X).set (o := o1) (.inl (je (k := 1) rfl))).set (o := o2) (.inl (je (k := 1) rfl))).set (o := o3) (.inl (je (y := { y with mrk := H.length }) (S := S) (k := 1) rfl))
 refine ab (qe b1 b2) (ab (h3.attr rfl) (ab (e5 _ h3.fst) (ab h3.put (ab h4.put (hZ (Q := Q) h ⟨{ y with mrk := H.length, nws := H1.length }, rn h4 (decide ((0 : M) ∈ st.firsts)) [], f1.trans (F' := aO.foot S { y with mrk := H.length }) (f3 _ _ _ _) fun a m => (BH a m).imp id fun e => j3 e.symm, fun a m => ?_⟩ q)))))
 rcases zh (y := { y with mrk := H.length }) a m with m | m
 ·exact (BH a m).imp id fun e => j3 e.symm
 ·exact .inr (m ▸ cY f1.1 f2.1)
end
end
section
section
variable {n : Nat} {H : AH} {S : Nat} {y : aO} {st : St} {Q : V -> AH -> Prop}
theorem wL (h : aB H S y st) {m : M} (hm : m ≠ 0) (h1 : st.doms.length < 4000) (h2 : st.firsts.length < 4000) (q : ∀ H', cI H S y H' { st with doms := st.doms ++ [m], firsts := st.firsts ++ [m] } -> Q (.int st.doms.length) H') : WC (n + 12) 31 [.ref S, mV m] H Q := by
 have s1 := wD h (st.doms ++ [m])
 have s2 := Hp s1 (st.firsts ++ [m])
 have t1 : dB H y.dom (st.doms.map mV) 0 [mV m] = some (.none, H.set y.dom (.list ((st.doms ++ [m]).map mV))) := (jC (by rw [aM]; exact n1 h1 rfl)).trans (by rw [eJ]; rfl)
 have t2 : ∀ H : AH, dB H y.fst (st.firsts.map mV) 0 [mV m] = some (.none, H.set y.fst (.list ((st.firsts ++ [m]).map mV))) := fun H => (jC (by rw [aM]; exact n1 h2 rfl)).trans (by rw [eJ]; rfl)
 have e : V.int ((((st.doms ++ [m]).map mV).length : Nat) - 1 : Int) = .int st.doms.length := by rw [aM, dg, Int.natCast_add]; exact congrArg V.int (Int.add_sub_cancel _ _)
 rw [<-e] at q
 exact bD (f := 31) rfl rfl (ab (h.attr rfl) (eO h.dom (fh h.dom (aK t1 (ab (s1.attr rfl) (eO s1.fst (fh s1.fst (aK (t2 _) (ab (vi (b := 0) hm) (ab (s2.attr rfl) (aK (eZ s2.dom) (aK rfl (hZ (Q := Q) h ⟨y, s2, ((Fr.refl (y.foot S) H).set (.inl (je (k := 2) rfl))).set (.inl (je (k := 3) rfl)), fun u' m => .inl m⟩ q)))))))))))))
theorem fg (H Z : AH) (k : Nat) : ag (H ++ Z) (H.length + k) = Z[k]? := by
 unfold ag
 rw [mP (j4 _ _), PN]
theorem ux (H Z : AH) : ag (H ++ Z) H.length = Z[0]? := fg H Z 0
theorem Et (H Z : AH) (k : Nat) (o : ar) : (H ++ Z).set (H.length + k) o = H ++ Z.set k o := by
 simp [List.set_append]
noncomputable def cj : St := ⟨[], [], [], [], [], false, []⟩
theorem mF {H H' : AH} {Q : V -> AH -> Prop} {v : V} (a : Nat) (ha : a < H.length) (h : ag H' a ≠ ag H a) : cO H Q v H' ↔ Q v H' := by
 unfold cO
 rw [if_neg]
 simp only [eU, decide_eq_true_eq, not_and]
 exact fun u' e => h (iK e ha)
noncomputable def yt : Option ar -> Bool
 | some (.attrs l) => l.any Option.isSome
 | _ => false
theorem pA {H : AH} {c k : Nat} {v : V} {l : List (Option V)} {r : AH} : iZ (H ++ (ar.inst c (H.length + 1) :: .attrs l :: r)) (.ref H.length) k v = some (H ++ (ar.inst c (H.length + 1) :: .attrs (l.set k (some v)) :: r)) :=
 (qe (ux _ _) (fg _ _ 1)).trans (congrArg some (Et _ _ 1 _))
theorem pN {H : AH} {c k : Nat} {o : ar} {l : List (Option V)} {r : AH} : iZ ((H ++ (ar.inst c (H.length + 1) :: .attrs l :: r)) ++ [o]) (.ref H.length) k (.ref (H ++ (ar.inst c (H.length + 1) :: .attrs l :: r)).length) = some (H ++ (ar.inst c (H.length + 1) :: .attrs (l.set k (some (.ref (H.length + (r.length + 2))))) :: (r ++ [o]))) := by
 rw [fL, dg]; exact pA
theorem I8 {loc : Loc} (q : aB (H ++ [.inst 1 (H.length + 1), .attrs (dW ⟨H.length + 1, H.length + 2, H.length + 3, H.length + 4, H.length + 5, H.length + 6⟩ cj), .list [], .list [], .list [], .list [], .dict []]) H.length ⟨H.length + 1, H.length + 2, H.length + 3, H.length + 4, H.length + 5, H.length + 6⟩ cj →
   Q (.ref H.length) (H ++ [.inst 1 (H.length + 1), .attrs (dW ⟨H.length + 1, H.length + 2, H.length + 3, H.length + 4, H.length + 5, H.length + 6⟩ cj), .list [], .list [], .list [], .list [], .dict []])) : WE (n + 20) (.new 1) loc H Q := by
 refine hV (ab ti_1 (bD (f := 30) rfl rfl (ab pN (ab pN (ab pN (ab pN (ab pN (ab pA (ab pA (ab pA ?_))))))))))
 refine (mF (Q := kNew2 H.length Q) (v := V.none) (H.length + 1) (by rw [dg]; exact oB (show 1 < 2 from by decide) _) fun e => ?_).mpr ⟨rfl, q ⟨ux _ _, fg _ _ 1, fg _ _ 2, fg _ _ 3, fg _ _ 4, fg _ _ 5, fg _ _ 6, by simp [aO.foot]⟩⟩
 exact aY (show true = false from congrArg yt ((fg H _ 1).symm.trans (e.trans (fg H _ 1))))
end
end
section
set_option genInjectivity false in
set_option genSizeOf false in
structure Bk where
 ats : Nat
 cls : Nat
 uni : Nat
 fre : Nat
 wat : Nat
 cl : List (Nat × List aj)
 fresh : List Nat
 wa : List (Int × (Nat × List Nat))
noncomputable def refOf (p : Nat × List aj) : V := .ref p.1
noncomputable def eE (p : Int × (Nat × List Nat)) : Int × V := (p.1, .ref p.2.1)
noncomputable def gN (p : Int × (Nat × List Nat)) : Nat := p.2.1
noncomputable def gV (p : Nat × List aj) : Nat := p.1
noncomputable def Bk.base (B : Nat) (b : Bk) : List Nat := [B, b.ats, b.cls, b.uni, b.fre, b.wat]
noncomputable def Bk.foot (B : Nat) (b : Bk) : List Nat := b.base B ++ (b.cl.map gV ++ b.wa.map gN)
noncomputable def gk (b : Bk) : List (Option V) := [none, none, none, none, none, none, none, none, some (.ref b.cls), some (.ref b.uni), some (.ref b.fre), some (.ref b.wat)]
structure aH (H : AH) (B : Nat) (b : Bk) : Prop where
 inst : ag H B = some (.inst 0 b.ats)
 attrs : ag H b.ats = some (.attrs (gk b))
 cls : ag H b.cls = some (.list (b.cl.map refOf))
 uni : ag H b.uni = some (.list [])
 fre : ag H b.fre = some (.list (b.fresh.map az))
 wat : ag H b.wat = some (.dict (b.wa.map eE))
 clL : ∀ p ∈ b.cl, ag H p.1 = some (.list (p.2.map au))
 waL : ∀ p ∈ b.wa, ag H p.2.1 = some (.list (p.2.2.map az))
 nd : (b.foot B).Nodup
noncomputable def bS : List (Int × (Nat × List Nat)) -> Int -> Option (Nat × List Nat)
 | [], _ => none
 | (k, p) :: r, x => if k = x then some p else bS r x
theorem jv  {u0} : bS  [] u0 = (none) := rfl
theorem jA  {k} {p} {r} {x} : bS  ((k, p) :: r) x = (if k = x then some p else bS r x) := rfl
noncomputable def bV : List (Int × (Nat × List Nat)) -> Int -> Nat × List Nat -> List (Int × (Nat × List Nat))
 | [], x, p => [(x, p)]
 | (k, q) :: r, x, p => if k = x then (k, p) :: r else (k, q) :: bV r x p
theorem qk  {x} {p} : bV  [] x p = ([(x, p)]) := rfl
theorem ph  {k} {q} {r} {x} {p} : bV  ((k, q) :: r) x p = (if k = x then (k, p) :: r else (k, q) :: bV r x p) := rfl
theorem pG : ∀ (wa : List (Int × (Nat × List Nat))) (x : Int), dictAt (wa.map eE) x = (bS wa x).map fun p => V.ref p.1 := by
 intro wa
 induction wa with
 | nil =>
  intro x
  exact rfl
 | cons Se r iH =>
  obtain ⟨k, p⟩ := Se
  intro x
  simp only [cA, eE, Fi, Gm, jv, jA]
  split
  ·rfl
  ·exact iH x
theorem Ep : ∀ (wa : List (Int × (Nat × List Nat))) (x : Int) (p : Nat × List Nat), dictPut (wa.map eE) x (.ref p.1) = (bV wa x p).map eE := by
 intro wa
 induction wa with
 | nil =>
  intro x p
  exact rfl
 | cons Se r iH =>
  obtain ⟨k, q⟩ := Se
  intro x p
  simp only [cA, eE, dictPut, qk, ph]
  split
  ·rfl
  ·rw [iH x p]; rfl
theorem pK : ∀ (wa : List (Int × (Nat × List Nat))) (x z : Int) (p : Nat × List Nat), bS (bV wa x p) z = if x = z then some p else bS wa z := by
 intro wa
 induction wa with
 | nil =>
  intro x z p
  simp [qk, ph, jv, jA]
 | cons Se r iH =>
  obtain ⟨k, q⟩ := Se
  intro x z p
  by_cases e : k = x
  ·subst e; simp only [qk, ph, if_true, jv, jA]; split <;> rfl
  ·simp only [qk, ph, if_neg e, jv, jA]
   by_cases e2 : k = z
   ·subst e2; rw [if_pos rfl, if_pos rfl, if_neg (fun h => e h.symm)]
   ·rw [if_neg e2, if_neg e2, iH x z p]
theorem vN {x : Int} {p : Nat × List Nat} : ∀ {wa : List (Int × (Nat × List Nat))}, bS wa x = some p -> ∃ l r, wa = l ++ (x, p) :: r /\ ∀ q, bV wa x q = l ++ (x, q) :: r := by
 intro wa
 induction wa with
 | nil => exact fun h => nomatch h
 | cons u r iH =>
  intro h
  by_cases e : u.1 = x
  ·have h : some u.2 = some p := (if_pos e).symm.trans h
   exact ⟨[], r, by rw [<-aC h, <-e]; rfl, fun q => (if_pos e).trans (e ▸ rfl)⟩
  ·obtain ⟨l, t, h1, h2⟩ := iH ((if_neg e).symm.trans h)
   exact ⟨u :: l, t, congrArg (u :: ·) h1, fun q => (if_neg e).trans (congrArg (u :: ·) (h2 q))⟩
theorem mr {wa : List (Int × (Nat × List Nat))} {x : Int} {p : Nat × List Nat} (h : bS wa x = some p) : (x, p) ∈ wa := by
 obtain ⟨l, r, e, _⟩ := vN h
 rw [e]; exact be _ aL
theorem vB {α : Type} (f : Int × (Nat × List Nat) -> α) {wa : List (Int × (Nat × List Nat))} {x : Int} {p q : Nat × List Nat} (h : bS wa x = some p) (e : f (x, q) = f (x, p)) : (bV wa x q).map f = wa.map f := by
 obtain ⟨l, r, e1, e2⟩ := vN h
 rw [e2, e1, eJ, eJ, cA, cA, e]
theorem Ao {wa : List (Int × (Nat × List Nat))} {x : Int} {p q : Nat × List Nat} (h : bS wa x = some p) (e : q.1 = p.1) : (bV wa x q).map gN = wa.map gN /\ (bV wa x q).map eE = wa.map eE :=
 ⟨vB gN h e, vB eE h (congrArg (fun a => (x, V.ref a)) e)⟩
set_option tactic.hygienic true in
theorem vX : ∀ {wa : List (Int × (Nat × List Nat))} {x : Int} {q : Nat × List Nat}, bS wa x = none -> bV wa x q = wa ++ [(x, q)] := by
 intro wa
 induction wa with
 | nil =>
  intro x q h
  exact rfl
 | cons Se r iH =>
  obtain ⟨k, u⟩ := Se
  intro x q h
  simp only [jv, jA] at h
  split at h
  ·cases h
  ·rename_i e1; simp only [qk, ph, if_neg e1, kj, iH h]
theorem wW {wa : List (Int × (Nat × List Nat))} {x : Int} {p q : Nat × List Nat} (nd : (wa.map gN).Nodup) (h : bS wa x = some p) (u : Int × (Nat × List Nat)) (hu : u ∈ bV wa x q) : u = (x, q) \/ (u ∈ wa /\ u.2.1 ≠ p.1) := by
 obtain ⟨l, r, e1, e2⟩ := vN h
 rw [e2] at hu
 rw [e1, eJ, cA] at nd
 obtain ⟨_, n2, n3⟩ := bX.mp nd
 rw [e1]
 rcases aW.mp hu with m | m
 ·exact .inr ⟨aV _ m, n3 _ (bg.mpr ⟨u, m, rfl⟩) _ aL⟩
 ·rcases aP.mp m with e | m
  ·exact .inl e
  ·exact .inr ⟨be _ (aQ _ m), fun e => (dh.mp n2).1 (bg.mpr ⟨u, m, e⟩)⟩
section
variable {H H' : AH} {B : Nat} {b b' : Bk}
noncomputable def wv (b : Bk) : List ar := [.inst 0 b.ats, .attrs (gk b), .list (b.cl.map refOf), .list [], .list (b.fresh.map az), .dict (b.wa.map eE)]
theorem aH.laid (h : aH H B b) : (b.base B).map (ag H) = (wv b).map some := by
 show [ag H B, ag H b.ats, ag H b.cls, ag H b.uni, ag H b.fre, ag H b.wat] = _
 rw [h.inst, h.attrs, h.cls, h.uni, h.fre, h.wat]; rfl
theorem aH.lt (h : aH H B b) : ∀ a ∈ b.foot B, a < H.length := by
 intro a ha
 rcases aW.mp ha with ha | ha
 ·exact p5 h.laid a ha
 ·rcases aW.mp ha with ha | ha
  ·obtain ⟨p, hp, e⟩ := bg.mp ha
   exact e ▸ cR (h.clL p hp)
  ·obtain ⟨p, hp, e⟩ := bg.mp ha
   exact e ▸ cR (h.waL p hp)
structure th (B : Nat) (b : Bk) : Prop where
 base : (b.base B).Nodup
 cl : (b.cl.map gV).Nodup
 wa : (b.wa.map gN).Nodup
 bc : ∀ a ∈ b.base B, ∀ p ∈ b.cl, a ≠ p.1
 bw : ∀ a ∈ b.base B, ∀ p ∈ b.wa, a ≠ p.2.1
 cw : ∀ p ∈ b.cl, ∀ q ∈ b.wa, p.1 ≠ q.2.1
theorem aH.ne (h : aH H B b) : th B b := by
 have nd := h.nd
 unfold Bk.foot at nd
 rw [bX, bX] at nd
 obtain ⟨n1, ⟨n2, n3, n4⟩, n5⟩ := nd
 exact ⟨n1, n2, n3, fun a ha p hp => n5 a ha _ (aV _ (bg.mpr ⟨p, hp, rfl⟩)), fun a ha p hp => n5 a ha _ (be _ (bg.mpr ⟨p, hp, rfl⟩)),
  fun p hp q hq => n4 _ (bg.mpr ⟨p, hp, rfl⟩) _ (bg.mpr ⟨q, hq, rfl⟩)⟩
theorem th.nd (n : th B b) : (b.foot B).Nodup := by
 unfold Bk.foot
 rw [bX, bX]
 refine ⟨n.base, ⟨n.cl, n.wa, ?_⟩, ?_⟩
 ·intro a ha c hc
  obtain ⟨p, hp, rfl⟩ := bg.mp ha
  obtain ⟨q, hq, rfl⟩ := bg.mp hc
  exact n.cw p hp q hq
 ·intro a ha c hc
  rcases aW.mp hc with hc | hc
  ·obtain ⟨q, hq, rfl⟩ := bg.mp hc; exact n.bc a ha q hq
  ·obtain ⟨q, hq, rfl⟩ := bg.mp hc; exact n.bw a ha q hq
set_option tactic.hygienic true in
theorem rL {α : Type} {l : List α} {i : Nat} {a x : α} (h : x ∈ l.set i a) : x = a \/ ∃ j, j ≠ i /\ l[j]? = some x := by
 obtain ⟨j, hj⟩ := ju.mp h
 rw [oZ] at hj
 split at hj
 ·split at hj
  ·cases hj; exact .inl rfl
  ·cases hj
 ·rename_i ne; exact .inr ⟨j, fun e => ne e.symm, hj⟩
theorem JW {l : List Nat} (nd : l.Nodup) {i j a : Nat} (hi : l[i]? = some a) (hj : l[j]? = some a) : i = j := (Rj (bG.mp hi).1 nd).mp (hi.trans hj.symm)
theorem aH.of (h : (b.base B).map (ag H) = (wv b).map some) (c : ∀ p ∈ b.cl, ag H p.1 = some (.list (p.2.map au))) (w : ∀ p ∈ b.wa, ag H p.2.1 = some (.list (p.2.2.map az))) (n : th B b) : aH H B b :=
 have g := fun i : Nat => congrArg (fun l => l[i]?) h
 ⟨aC (g 0), aC (g 1), aC (g 2), aC (g 3), aC (g 4), aC (g 5), c, w, n.nd⟩
theorem aH.frame (h : aH H B b) (f : ∀ a ∈ b.foot B, ag H' a = ag H a) : aH H' B b :=
 .of ((oM fun a ha => f a (aV _ ha)).trans h.laid)
  (fun p hp => (f _ (be _ (aV _ (bg.mpr ⟨p, hp, rfl⟩)))).trans (h.clL p hp))
  (fun p hp => (f _ (be _ (be _ (bg.mpr ⟨p, hp, rfl⟩)))).trans (h.waL p hp)) h.ne
theorem pP {i a : Nat} (h : (b.base B)[i]? = some a) : a ∈ b.base B := aT h
structure Lts (H : AH) (B : Nat) (b : Bk) : Prop where
 bs : ∀ z ∈ b.base B, z < H.length
 c : ∀ p ∈ b.cl, p.1 < H.length
 w : ∀ p ∈ b.wa, p.2.1 < H.length
theorem aH.lts (h : aH H B b) : Lts H B b := ⟨p5 h.laid, fun p hp => cR (h.clL p hp), fun p hp => cR (h.waL p hp)⟩
theorem aH.set (h : aH H B b) {k a : Nat} (hk : (b.base B)[k]? = some a) (o : ar) : (b.base B).map (ag (H.set a o)) = ((wv b).set k o).map some /\ (∀ p ∈ b.cl, ag (H.set a o) p.1 = some (.list (p.2.map au))) /\ ∀ p ∈ b.wa, ag (H.set a o) p.2.1 = some (.list (p.2.2.map az)) :=
 ⟨jb h.laid h.ne.base hk o, fun p hp => (dI (h.ne.bc a (pP hk) p hp)).trans (h.clL p hp), fun p hp => (dI (h.ne.bw a (pP hk) p hp)).trans (h.waL p hp)⟩
set_option tactic.hygienic true in
theorem GQ (h : aH H B b) {i a : Nat} {c c' : List aj} (hi : b.cl[i]? = some (a, c)) : aH (H.set a (.list (c'.map au))) B { b with cl := b.cl.set i (a, c') } := by
 have n := h.ne
 have hm := aT hi
 have bne : ∀ z ∈ b.base B, ag (H.set a (.list (c'.map au))) z = ag H z := fun z hz => dI (lD (n.bc z hz _ hm))
 have e1 : (b.cl.set i (a, c')).map gV = b.cl.map gV := by
  rw [kq]
  refine oX fun j => ?_
  rw [oZ]
  split
  ·rename_i e; subst e
   have := (bG.mp hi).1
   rw [if_pos (by simpa using this), cM, hi]; rfl
  ·rfl
 have e2 : (b.cl.set i (a, c')).map refOf = b.cl.map refOf := by
  have : ∀ l : List (Nat × List aj), l.map refOf = (l.map gV).map V.ref := fun l => by simp [refOf, gV, DD]
  rw [this, this, e1]
 refine .of ?_ ?_ ?_ ⟨n.base, ?_, n.wa, ?_, n.bw, ?_⟩
 ·refine ((oM bne).trans h.laid).trans ?_
  show _ = [_, _, some (ar.list ((b.cl.set i (a, c')).map refOf)), _, _, _]
  rw [e2]; rfl
 ·intro p hp
  rcases rL hp with rfl | ⟨j, hj, e⟩
  ·exact fU (h.clL _ hm)
  ·refine (dI fun q => hj ?_).trans (h.clL p (aT e))
   refine JW n.cl (a := a) ?_ ?_
   ·rw [cM, e]; simp [gV, q]
   ·rw [cM, hi]; rfl
 ·intro p hp
  exact (dI (n.cw _ hm p hp)).trans (h.waL p hp)
 ·show ((b.cl.set i (a, c')).map gV).Nodup
  rw [e1]; exact n.cl
 ·exact fun z hz p hp => (oY hp).elim (n.bc z hz p) fun e => e ▸ (show z ≠ a from n.bc z hz _ hm)
 ·exact fun p hp => (oY hp).elim (n.cw p) fun e q hq => by rw [e]; exact (show a ≠ q.2.1 from n.cw _ hm q hq)
theorem vC (h : aH H B b) {x : Int} {a : Nat} {l l' : List Nat} (hi : bS b.wa x = some (a, l)) : aH (H.set a (.list (l'.map az))) B { b with wa := bV b.wa x (a, l') } := by
 have n := h.ne
 have hm := mr hi
 obtain ⟨e1, e2⟩ := Ao (q := (a, l')) hi rfl
 have bne : ∀ z ∈ b.base B, ag (H.set a (.list (l'.map az))) z = ag H z := fun z hz => dI (lD (n.bw z hz _ hm))
 refine .of ?_ ?_ ?_ ⟨n.base, n.cl, ?_, n.bc, ?_, ?_⟩
 ·refine ((oM bne).trans h.laid).trans ?_
  show _ = [_, _, _, _, _, some (ar.dict ((bV b.wa x (a, l')).map eE))]
  rw [e2]; rfl
 ·intro p hp
  exact (dI (lD (n.cw p hp _ hm))).trans (h.clL p hp)
 ·intro p hp
  rcases wW n.wa hi p hp with rfl | ⟨u1, u2⟩
  ·exact fU (h.waL _ hm)
  ·exact (dI (lD u2)).trans (h.waL p u1)
 ·show ((bV b.wa x (a, l')).map gN).Nodup
  rw [e1]; exact n.wa
 ·intro z hz p hp
  rcases wW n.wa hi p hp with e | ⟨u1, _⟩
  ·rw [e]; exact (show z ≠ a from n.bw z hz _ hm)
  ·exact n.bw z hz p u1
 ·intro z hz p hp
  rcases wW n.wa hi p hp with e | ⟨u1, _⟩
  ·rw [e]; exact (show z.1 ≠ a from n.cw z hz _ hm)
  ·exact n.cw z hz p u1
theorem Kg (h : aH H B b) (l : List Nat) : aH (H.set b.fre (.list (l.map az))) B { b with fresh := l } :=
 have q := h.set (k := 4) rfl (.list (l.map az))
 have n := h.ne
 .of q.1 q.2.1 q.2.2 ⟨n.base, n.cl, n.wa, n.bc, n.bw, n.cw⟩
theorem aH.app (h : aH H B b) (X : AH) : aH (H ++ X) B b := h.frame fun a ha => eY (h.lt a ha)
theorem Ks (h : aH H B b) {i a : Nat} {c c' : List aj} (hi : b.cl[i]? = some (a, c)) : aH ((H ++ [ar.list (c'.map au)]).set b.cls (.list ((b.cl.set i (H.length, c')).map refOf))) B { b with cl := b.cl.set i (H.length, c') } := by
 have n := h.ne
 have L := h.lts
 have q := (h.app [ar.list (c'.map au)]).set (k := 2) rfl (.list ((b.cl.set i (H.length, c')).map refOf))
 have el : ∀ {P : Nat × List aj -> Prop}, (∀ p ∈ b.cl, P p) -> P (H.length, c') -> ∀ p ∈ b.cl.set i (H.length, c'), P p := fun h1 h2 p hp => (oY hp).elim (h1 p) fun e => e ▸ h2
 refine .of q.1 (el q.2.1 ((dI (cB (L.bs _ (pP (i := 2) rfl)))).trans (iG _ _))) q.2.2 ⟨n.base, ?_, n.wa, fun z hz => el (n.bc z hz) (cB (L.bs z hz)), n.bw, el n.cw fun u hu => (cB (L.w u hu)).symm⟩
 show ((b.cl.set i (H.length, c')).map gV).Nodup
 rw [kq]
 refine Ba n.cl i fun m => ?_
 obtain ⟨p, hp, e⟩ := bg.mp m
 exact cB (L.c p hp) e
end
end
section
section
variable {H H' : AH} {B : Nat} {b b' : Bk}
theorem Cq {wa : List (Int × (Nat × List Nat))} {x : Int} {q : Nat × List Nat} (h : bS wa x = none) : (bV wa x q).map gN = wa.map gN ++ [q.1] := by
 rw [vX h]; simp [gN]
theorem yd {l : List Nat} (nd : l.Nodup) {v : Nat} (hv : v ∉ l) : (l ++ [v]).Nodup :=
 bX.mpr ⟨nd, dh.mpr ⟨gb, m8⟩, fun a ha c hc e => hv (aN.mp hc ▸ e ▸ ha)⟩
theorem rp {α : Type} {l : List α} {a : α} {P : α -> Prop} (h1 : ∀ p ∈ l, P p) (h2 : P a) : ∀ p ∈ l ++ [a], P p := fun p hp => (aW.mp hp).elim (h1 p) fun e => aN.mp e ▸ h2
theorem Jt (h : aH H B b) (c : List aj) : aH ((H ++ [ar.list (c.map au)]).set b.cls (.list (b.cl.map refOf ++ [.ref H.length]))) B { b with cl := b.cl ++ [(H.length, c)] } := by
 have n := h.ne
 have L := h.lts
 have q := (h.app [ar.list (c.map au)]).set (k := 2) rfl (.list ((b.cl ++ [(H.length, c)]).map refOf))
 rw [show b.cl.map refOf ++ [.ref H.length] = (b.cl ++ [(H.length, c)]).map refOf from by rw [eJ]; rfl]
 refine .of q.1 (rp q.2.1 ((dI (cB (L.bs _ (pP (i := 2) rfl)))).trans (iG _ _))) q.2.2 ⟨n.base, ?_, n.wa, fun z hz => rp (n.bc z hz) (cB (L.bs z hz)), n.bw, rp n.cw fun u hu => (cB (L.w u hu)).symm⟩
 show ((b.cl ++ [(H.length, c)]).map gV).Nodup
 rw [eJ]
 refine yd n.cl fun m => ?_
 obtain ⟨p, hp, e⟩ := bg.mp m
 exact cB (L.c p hp) e
theorem Lk (h : aH H B b) {x : Int} (hx : bS b.wa x = none) : aH ((H ++ [ar.list []]).set b.wat (.dict (dictPut (b.wa.map eE) x (.ref H.length)))) B { b with wa := bV b.wa x (H.length, []) } := by
 have n := h.ne
 have L := h.lts
 have q := (h.app [ar.list []]).set (k := 5) rfl (.dict (dictPut (b.wa.map eE) x (.ref H.length)))
 have el : ∀ {P : Int × (Nat × List Nat) -> Prop}, (∀ p ∈ b.wa, P p) -> P (x, (H.length, [])) -> ∀ p ∈ bV b.wa x (H.length, []), P p := fun h1 h2 => by rw [vX hx]; exact rp h1 h2
 refine .of ?_ q.2.1 (el q.2.2 ((dI (cB (L.bs _ (pP (i := 5) rfl)))).trans (iG _ _))) ⟨n.base, n.cl, ?_, n.bc, fun z hz => el (n.bw z hz) (cB (L.bs z hz)), fun p hp => el (n.cw p hp) (cB (L.c p hp))⟩
 ·refine q.1.trans ?_
  rw [Ep b.wa x (H.length, [])]; rfl
 ·show ((bV b.wa x (H.length, [])).map gN).Nodup
  rw [Cq hx]
  refine yd n.wa fun m => ?_
  obtain ⟨p, hp, e⟩ := bg.mp m
  exact cB (L.w p hp) e
theorem NF (h : aH H B b) : aH ((H ++ [ar.list []]).set b.ats (.attrs (gk { b with fre := H.length }))) B { b with fre := H.length, fresh := [] } := by
 have n := h.ne
 have L := h.lts
 have q := (h.app [ar.list []]).set (k := 1) rfl (.attrs (gk { b with fre := H.length }))
 have g := vJ h.laid n.base 4 (ar.list [])
 have ms : ∀ z ∈ (b.base B).set 4 H.length, z ∈ b.base B \/ z = H.length := fun z hz => oY hz
 exact .of (jb g.1 g.2 (k := 1) rfl _) q.2.1 q.2.2 ⟨g.2, n.cl, n.wa, fun z hz p hp => (ms z hz).elim (fun m => n.bc z m p hp) fun e => e ▸ (cB (L.c p hp)).symm, fun z hz p hp => (ms z hz).elim (fun m => n.bw z m p hp) fun e => e ▸ (cB (L.w p hp)).symm, n.cw⟩
structure dc (H : AH) (B : Nat) (b : Bk) (H' : AH) (b' : Bk) : Prop where
 at_ : aH H' B b'
 fr : Fr (b.foot B) H H'
 sub : ∀ a ∈ b'.foot B, a ∈ b.foot B \/ H.length <= a
theorem dc.refl (h : aH H B b) : dc H B b H b := ⟨h, Fr.refl _ _, fun u' m => .inl m⟩
theorem dc.trans {H1 H2 : AH} {b1 b2 : Bk} (g : dc H B b H1 b1) (k : dc H1 B b1 H2 b2) : dc H B b H2 b2 :=
 ⟨k.at_, g.fr.trans k.fr g.sub, fun a ha => by
  rcases k.sub a ha with q | q
  ·exact g.sub a q
  ·exact .inr (cY g.fr.1 q)⟩
theorem zX {α : Type} {f : α -> Nat} {g : α -> V} (e : ∀ a, g a = .ref (f a)) {l l' : List α} (h : l.map g = l'.map g) : l.map f = l'.map f := by
 have r : ∀ l : List α, l.map g = (l.map f).map V.ref := fun l => by rw [nv]; exact oM fun a u' => e a
 rw [r, r] at h
 exact (xS fun u' u' => V.ref.inj).mp h
theorem aH.same (h : aH H B b) (h' : aH H' B b') (e : ∀ a < H.length, ag H' a = ag H a) : b'.foot B = b.foot B := by
 have e1 := aC (h'.inst.symm.trans ((e _ (cR h.inst)).trans h.inst))
 have e1 : b'.ats = b.ats := (ar.inst.inj e1).2
 have e2 := h'.attrs
 rw [e1, e _ (cR h.attrs), h.attrs] at e2
 have g := fun i : Nat => congrArg (fun l => l[i]?) (ar.attrs.inj (aC e2))
 have r : ∀ {a b : Nat}, some (some (V.ref a)) = some (some (V.ref b)) -> a = b := fun z => V.ref.inj (aC (aC z))
 have e3 := r (g 8)
 have e6 := r (g 11)
 have e7 := h'.cls
 rw [<-e3, e _ (cR h.cls), h.cls] at e7
 have e8 := h'.wat
 rw [<-e6, e _ (cR h.wat), h.wat] at e8
 have e9 : b.cl.map gV = b'.cl.map gV := zX (g := refOf) (fun u' => rfl) (ar.list.inj (aC e7))
 have e11 : b.wa.map gN = b'.wa.map gN := zX (g := fun p => (eE p).2) (fun u' => rfl) (by
  have := congrArg (ue (·.2)) (ar.dict.inj (aC e8))
  rw [nv, nv] at this; exact this)
 unfold Bk.foot Bk.base
 rw [e1, <-e3, <-r (g 9), <-r (g 10), <-e6, <-e9, <-e11]
theorem dc.drop (h : aH H B b) (g : dc H B b H' b') (e : H'.take H.length = H) : dc H B b H b' := by
 have hf := h.same g.at_ fun a ha => iK e ha
 exact ⟨g.at_.frame fun a ha => (iK e (h.lt a (hf ▸ ha))).symm, Fr.refl _ _, fun a ha => .inl (hf ▸ ha)⟩
set_option tactic.hygienic true in
theorem nB (h : aH H B b) (g : dc H B b H' b') {v : V} {Q : V -> AH -> Prop} (q : ∀ H', dc H B b H' b' -> Q v H') : cO H Q v H' := by
 unfold cO
 split
 ·rename_i z
  simp only [eU, decide_eq_true_eq] at z
  exact q _ (g.drop h z.2)
 ·exact q _ g
variable {S : Nat} {y y' : aO} {st st' : St}
structure W2 (H : AH) (S : Nat) (y : aO) (st : St) (B : Nat) (b : Bk) : Prop where
 sa : aB H S y st
 ba : aH H B b
 dj : ∀ a ∈ y.foot S, a ∉ b.foot B
structure bP (H : AH) (S : Nat) (y : aO) (B : Nat) (b : Bk) (H' : AH) (y' : aO) (st' : St) (b' : Bk) : Prop where
 w : W2 H' S y' st' B b'
 fr : Fr (y.foot S ++ b.foot B) H H'
 ys : ∀ a ∈ y'.foot S, a ∈ y.foot S \/ H.length <= a
 bs : ∀ a ∈ b'.foot B, a ∈ b.foot B \/ H.length <= a
theorem bP.refl (h : W2 H S y st B b) : bP H S y B b H y st b := ⟨h, Fr.refl _ _, fun u' m => .inl m, fun u' m => .inl m⟩
theorem bP.trans {H1 H2 : AH} {y1 y2 : aO} {S7 Sv : St} {b1 b2 : Bk} (g : bP H S y B b H1 y1 S7 b1) (k : bP H1 S y1 B b1 H2 y2 Sv b2) : bP H S y B b H2 y2 Sv b2 :=
 ⟨k.w, g.fr.trans k.fr fun a ha => by
   rcases aW.mp ha with m | m
   ·rcases g.ys a m with q | q
    ·exact .inl (aV _ q)
    ·exact .inr q
   ·rcases g.bs a m with q | q
    ·exact .inl (be _ q)
    ·exact .inr q,
  fun a ha => by
   rcases k.ys a ha with q | q
   ·exact g.ys a q
   ·exact .inr (cY g.fr.1 q),
  fun a ha => by
   rcases k.bs a ha with q | q
   ·exact g.bs a q
   ·exact .inr (cY g.fr.1 q)⟩
theorem Fr.weak {F F' : List Nat} (f : Fr F H H') (h : ∀ a ∈ F, a ∈ F') : Fr F' H H' := ⟨f.1, fun a ha na => f.2 a ha fun m => na (h a m)⟩
theorem W2.store (h : W2 H S y st B b) (g : cI H S y H' st') : ∃ y', bP H S y B b H' y' st' b := by
 obtain ⟨y', s, f, m⟩ := g
 refine ⟨y', ⟨s, h.ba.frame fun a ha => f.2 a (h.ba.lt a ha) fun q => h.dj a q ha, fun a ha q => ?_⟩, f.weak fun a m => aV _ m, m, fun a m => .inl m⟩
 rcases m a ha with z | z
 ·exact h.dj a z q
 ·have := h.ba.lt a q; trivial
theorem W2.book (h : W2 H S y st B b) (g : dc H B b H' b') : bP H S y B b H' y st b' := by
 refine ⟨⟨h.sa.frame fun a ha => g.fr.2 a (h.sa.lt a ha) fun q => h.dj a ha q, g.at_, fun a ha q => ?_⟩, g.fr.weak fun a m => be _ m, fun a m => .inl m, g.sub⟩
 rcases g.sub a q with z | z
 ·exact h.dj a ha z
 ·have := h.sa.lt a ha; trivial
theorem bP.drop (h : W2 H S y st B b) (g : bP H S y B b H' y' st' b') (e : H'.take H.length = H) : bP H S y B b H y' st' b' := by
 have hf := h.ba.same g.w.ba fun a ha => iK e ha
 have hs := h.sa.same g.w.sa fun a ha => iK e ha
 subst hs
 exact ⟨⟨g.w.sa.frame fun a ha => (iK e (h.sa.lt a ha)).symm, g.w.ba.frame fun a ha => (iK e (h.ba.lt a (hf ▸ ha))).symm, g.w.dj⟩, Fr.refl _ _, fun a ha => .inl ha, fun a ha => .inl (hf ▸ ha)⟩
set_option tactic.hygienic true in
theorem nQ (h : W2 H S y st B b) (g : bP H S y B b H' y' st' b') {v : V} {Q : V -> AH -> Prop} (q : ∀ H', bP H S y B b H' y' st' b' -> Q v H') : cO H Q v H' := by
 unfold cO
 split
 ·rename_i z
  simp only [eU, decide_eq_true_eq] at z
  exact q _ (g.drop h z.2)
 ·exact q _ g
end
end
section
noncomputable def wl (wa : List (Int × (Nat × List Nat))) (x : Int) : List Nat := match bS wa x with
 | some p => p.2
 | none => []
noncomputable def dK (L : Nat) : Bk := ⟨L + 1, L + 2, L + 3, L + 4, L + 5, [], [], []⟩
theorem zZ (k : Nat) (l : List Nat) : gT (.int k) (l.map az) = some (decide (k ∈ l)) := by
 have h1 : aI 8 (.int k) = true := rfl
 have h2 : (l.map az).all (aI 8) = true := by
  rw [DC, bJ]; intro x _; rfl
 unfold gT
 rw [h1, h2]
 have : V.int (k : Int) ∈ l.map az ↔ k ∈ l := by
  rw [bg]
  constructor
  ·rintro ⟨a, ha, e⟩; simp [az] at e; have e2 : a = k := by trivial
   exact e2 ▸ ha
  ·intro h; exact ⟨k, h, rfl⟩
 simp [this]
section
variable {n : Nat} {H : AH} {B : Nat} {b : Bk} {Q : V -> AH -> Prop}
theorem aH.mm (h : aH H B b) {c : PC} {es : T c9} {m f : Nat} {loc : Loc} (e : cP 0 m = some f) (q : es loc H (kMi4 c f B Q)) : gO (ag H B) (kM cy c es B m loc H Q) := eO h.inst (eO h.attrs (ab e q))
theorem aH.attr (h : aH H B b) {k : Nat} {v : V} (e : (gk b)[k]? = some (some v)) : eP H (.ref B) k = some v := by
 show kY (ag H B) _ = _
 rw [h.inst]
 show kJ (ag H b.ats) _ = _
 rw [h.attrs]
 show jn _ = _
 rw [e]; rfl
theorem rJ {k a : Nat} (h : (b.base B)[k]? = some a) : a ∈ b.foot B := aV _ (aT h)
theorem wO {H : AH} {a k : Nat} {l : List Nat} {d : Bool} (hz : ag H a = some (.list (l.map az))) (h : decide (k ∈ l) = d) : bF H .notin (.int k) (.ref a) = some (!d) := by
 show ((eB (ag H a)).bind _).map _ = _
 rw [hz]
 exact congrArg (kn (!·)) ((zZ k l).trans (congrArg some h))
theorem Ci {loc : Loc} (q : aH (H ++ [.inst 0 (H.length + 1), .attrs (gk (dK H.length)), .list [], .list [], .list [], .dict []]) H.length (dK H.length) →
   Q (.ref H.length) (H ++ [.inst 0 (H.length + 1), .attrs (gk (dK H.length)), .list [], .list [], .list [], .dict []])) : WE (n + 20) (.new 0) loc H Q := by
 refine hV (ab ti_0 (bD (f := 20) rfl rfl (ab pN (ab pN (ab pN (ab pN ?_))))))
 refine (mF (Q := kNew2 H.length Q) (v := V.none) (H.length + 1) (by rw [dg]; exact oB (show 1 < 2 from by decide) _) fun e => ?_).mpr ⟨rfl, q ⟨ux _ _, fg _ _ 1, fg _ _ 2, fg _ _ 3, fg _ _ 4, fg _ _ 5, fun p hp => (nomatch hp), fun p hp => (nomatch hp), by simp [Bk.foot, Bk.base, dK]⟩⟩
 exact aY (show true = false from congrArg yt ((fg H _ 1).symm.trans (e.trans (fg H _ 1))))
theorem Fa {b : Bk} {B a : Nat} {c : List aj} : ∀ z ∈ Bk.foot B { b with cl := b.cl ++ [(a, c)] }, z ∈ b.foot B \/ z = a := by
 intro z hz
 simp only [Bk.foot, Bk.base, eJ, cA, gE, gV, aW, aN] at hz ⊢
 rcases hz with h | (h | h) | h
 ·exact .inl (.inl h)
 ·exact .inl (.inr (.inl h))
 ·exact .inr h
 ·exact .inl (.inr (.inr h))
theorem AC (h : aH H B b) {c : List aj} (h2 : 2 <= c.length) (h5 : c.length < 5) (hl : b.cl.length < 4000) (hf : b.fresh.length < 4000) (q : ∀ H' a, dc H B b H' { b with cl := b.cl ++ [(a, c)], fresh := b.fresh ++ [b.cl.length] } -> Q (.int b.cl.length) H') : WC (n + 20) 21 [.ref B, .tup (c.map au)] H Q := by
 have h1 := Jt h c
 have hh := h.app [ar.list (c.map au)]
 have h3 := Kg h1 (b.fresh ++ [b.cl.length])
 have e : (((b.cl.map refOf).length : Nat) : Int) = (b.cl.length : Nat) := congrArg (fun k : Nat => (k : Int)) (aM _)
 have c2 : ¬ ((((c.map au).length : Nat) : Int) < 2) := by rw [aM]; exact j9.mpr (qI.mpr h2)
 have t1 : ∀ H : AH, dB H b.cls (b.cl.map refOf) 0 [.ref H.length] = some (.none, H.set b.cls (.list (b.cl.map refOf ++ [.ref H.length]))) := fun H => jC (by rw [aM]; exact n1 hl rfl)
 have t2 : ∀ H : AH, dB H b.fre (b.fresh.map az) 0 [.int (((b.cl.map refOf).length : Nat) : Int)] = some (.none, H.set b.fre (.list ((b.fresh ++ [b.cl.length]).map az))) := fun H => (jC (by rw [aM]; exact n1 hf rfl)).trans (by rw [e, eJ]; rfl)
 have t3 : dB (H ++ [ar.list (c.map au)]) b.cls (b.cl.map refOf) 0 [.ref H.length] = some (.none, (H ++ [ar.list (c.map au)]).set b.cls (.list (b.cl.map refOf ++ [.ref H.length]))) := jC (by rw [aM]; exact n1 hl rfl)
 refine bD (f := 21) rfl rfl (ab (h.attr rfl) (aK (eZ h.cls) (ab (h.attr rfl) (eO h.cls (aK rfl (fh hh.cls (aK t3 (aK rfl (ab (congrArg some (decide_eq_false c2)) (ab (h1.attr rfl) (eO h1.fre (fh h1.fre (aK (t2 _) ?_)))))))))))))
 refine nB (Q := Q) (v := .int (((b.cl.map refOf).length : Nat) : Int)) h (b' := { b with cl := b.cl ++ [(H.length, c)], fresh := b.fresh ++ [b.cl.length] }) ⟨h3, (((Fr.refl _ _).app _).set (.inl (rJ (k := 2) rfl))).set (.inl (rJ (k := 4) rfl)), fun a ha => (Fa a ha).imp id fun z => j3 z.symm⟩ fun H' g => ?_
 rw [e]; exact q H' _ g
theorem uP {b : Bk} {B : Nat} {x : Int} {p q : Nat × List Nat} (h : bS b.wa x = some p) (e : q.1 = p.1) : ∀ z ∈ Bk.foot B { b with wa := bV b.wa x q }, z ∈ b.foot B := by
 intro z hz
 unfold Bk.foot Bk.base at hz ⊢
 rwa [(Ao h e).1] at hz
theorem KR {b : Bk} {B : Nat} {x : Int} {q : Nat × List Nat} (h : bS b.wa x = none) : ∀ z ∈ Bk.foot B { b with wa := bV b.wa x q }, z ∈ b.foot B \/ z = q.1 := by
 intro z hz
 unfold Bk.foot Bk.base at hz ⊢
 rw [Cq h] at hz
 simp only [aW, aN] at hz ⊢
 rcases hz with h | h | h | h
 ·exact .inl (.inl h)
 ·exact .inl (.inr (.inl h))
 ·exact .inl (.inr (.inr h))
 ·exact .inr h
theorem zP {b : Bk} {B : Nat} {x : Int} {p : Nat × List Nat} (h : bS b.wa x = some p) : p.1 ∈ b.foot B := by
 unfold Bk.foot
 exact be _ (be _ (bg.mpr ⟨_, mr h, rfl⟩))
theorem td {wa : List (Int × (Nat × List Nat))} {x : Int} {p q : Nat × List Nat} (h : bS wa x = some p) : (bV wa x q).map (·.1) = wa.map (·.1) := vB (·.1) h rfl
set_option tactic.hygienic true in
theorem KF : ∀ {wa : List (Int × (Nat × List Nat))} {x : Int}, bS wa x = none -> x ∉ wa.map (·.1) := by
 intro wa
 induction wa with
 | nil =>
  intro x h
  simp
 | cons Se r iH =>
  obtain ⟨k, u⟩ := Se
  intro x h
  simp only [jv, jA] at h
  split at h
  ·cases h
  ·rename_i e1
   simp only [cA, aP, not_or]
   exact ⟨fun e => e1 e.symm, iH h⟩
noncomputable def kU (l : List Nat) (k : Nat) : List Nat := if k ∈ l then l else l ++ [k]
theorem zH {wa : List (Int × (Nat × List Nat))} {x : Int} {a k : Nat} {l : List Nat} (hl : wl wa x = l) (hk : k ∉ l) (z : Int) : wl (bV wa x (a, l ++ [k])) z = if x = z then kU (wl wa z) k else wl wa z := by
 by_cases e : x = z
 ·subst e; rw [if_pos rfl, hl, kU, if_neg hk]; unfold wl; rw [pK, if_pos rfl]
 ·rw [if_neg e]; unfold wl; rw [pK, if_neg e]
theorem F7 (h : aH H B b) {x : Int} {k : Nat} (hw : b.wa.length < 4000) (hl : (wl b.wa x).length < 4000) (q : ∀ H' Sn, dc H B b H' { b with wa := Sn } -> (∀ z, wl Sn z = if x = z then kU (wl b.wa z) k else wl b.wa z) -> (Sn.map (·.1) = b.wa.map (·.1) \/ (Sn.map (·.1) = b.wa.map (·.1) ++ [x] /\ x ∉ b.wa.map (·.1))) -> Q .none H') : WC (n + 20) 23 [.ref B, .int x, .int k] H Q := by
 have hh := h.app [ar.list []]
 rcases hx : bS b.wa x with _ | ⟨a, l⟩
 ·have h1 := Lk h hx
  have e2 : bS (bV b.wa x (H.length, [])) x = some (H.length, []) := by rw [pK, if_pos rfl]
  have h2 := vC (l' := [k]) h1 e2
  have Ub : ag _ H.length = some (.list (([] : List Nat).map az)) := h1.waL _ (mr e2)
  have t1 : gQ (H ++ [ar.list []]) b.wat (b.wa.map eE) 4 [.int x, .ref H.length] = some (.ref H.length, (H ++ [ar.list []]).set b.wat (.dict (dictPut (b.wa.map eE) x (.ref H.length)))) := by
   rw [wy, pG, hx]; exact if_pos (by rw [aM]; exact n1 hw rfl)
  have e0 : wl b.wa x = [] := by unfold wl; rw [hx]
  have e3 : bV (bV b.wa x (H.length, [])) x (H.length, [k]) = bV (bV b.wa x (H.length, [])) x (H.length, [] ++ [k]) := rfl
  refine bD (f := 23) rfl rfl (ab (h.attr rfl) (eO h.wat (vQ hh.wat (aK t1 (ab (wO Ub (decide_eq_false gb)) (eO Ub (fh Ub (aK (jC (by decide)) (nB (Q := Q) h (b' := { b with wa := bV (bV b.wa x (H.length, [])) x (H.length, [k]) }) ⟨h2, (((Fr.refl _ _).app _).set (.inl (rJ (k := 5) rfl))).set (.inr (bq _)), fun z hz => ?_⟩ fun H' g => q H' _ g (fun z => ?_) (.inr ⟨?_, KF hx⟩))))))))))
  ·exact (KR hx z (uP (B := B) (b := { b with wa := bV b.wa x (H.length, []) }) (q := (H.length, [k])) e2 rfl z hz)).imp id fun q => j3 q.symm
  ·have w0 : ∀ z, wl (bV b.wa x (H.length, [])) z = wl b.wa z := fun z => by
    unfold wl; rw [pK]
    by_cases e : x = z
    ·subst e; rw [if_pos rfl, hx]
    ·rw [if_neg e]
   rw [e3, zH ((w0 x).trans e0) gb, w0]
  ·rw [td e2, vX hx, eJ]; rfl
 ·have Ub : ag _ a = some (.list (l.map az)) := hh.waL _ (mr hx)
  have Ti : wl b.wa x = l := by unfold wl; rw [hx]
  rw [Ti] at hl
  have t1 : gQ (H ++ [ar.list []]) b.wat (b.wa.map eE) 4 [.int x, .ref H.length] = some (.ref a, H ++ [ar.list []]) := by
   rw [wy, pG, hx]; rfl
  refine bD (f := 23) rfl rfl (ab (h.attr rfl) (eO h.wat (vQ hh.wat (aK t1 ?_))))
  by_cases hk : k ∈ l
  ·refine ab (wO Ub (decide_eq_true hk)) (nB (Q := Q) h (b' := { b with wa := b.wa }) ⟨hh, (Fr.refl _ _).app _, fun u' m => .inl m⟩ fun H' g => q H' _ g (fun z => ?_) (.inl rfl))
   by_cases e : x = z
   ·subst e; rw [if_pos rfl, Ti, kU, if_pos hk]
   ·rw [if_neg e]
  ·have t2 : dB (H ++ [ar.list []]) a (l.map az) 0 [.int k] = some (.none, (H ++ [ar.list []]).set a (.list ((l ++ [k]).map az))) := (jC (by rw [aM]; exact n1 hl rfl)).trans (by rw [eJ]; rfl)
   exact ab (wO Ub (decide_eq_false hk)) (eO Ub (fh Ub (aK t2 (nB (Q := Q) h (b' := { b with wa := bV b.wa x (a, l ++ [k]) }) ⟨vC (l' := l ++ [k]) hh hx, ((Fr.refl _ _).app _).set (.inl (zP hx)), fun z hz => .inl (uP (q := (a, l ++ [k])) hx rfl z hz)⟩ fun H' g => q H' _ g (zH Ti hk) (.inl (td hx))))))
end
end
section
noncomputable def D0 : List M := [15, 15, 15]
noncomputable def eF : List M -> List bW -> Prop
 | _, [] => True
 | d, e :: r => e.x < 3 /\ e.old = d.getD e.x 0 /\ e.lit.ok /\ e.lit.x = e.x /\ e.old &&& e.lit.m ≠ 0 /\ e.old &&& e.lit.m ≠ e.old /\ eF (d.set e.x (e.old &&& e.lit.m)) r
noncomputable def run : List M -> List bW -> List M
 | d, [] => d
 | d, e :: r => run (d.set e.x (e.old &&& e.lit.m)) r
theorem rE  {d} : run  d [] = (d) := rfl
theorem p7  {d} {e} {r} : run  d (e :: r) = (run (d.set e.x (e.old &&& e.lit.m)) r) := rfl
theorem GI : ∀ (t : List bW) (d : List M), (run d t).length = d.length := by
 intro t
 induction t with
 | nil =>
  intro d
  exact rfl
 | cons e r iH =>
  intro d
  rw [p7, iH]; simp
theorem ur : ∀ (a b : List bW) (d : List M), run d (a ++ b) = run (run d a) b := by
 intro a
 induction a with
 | nil =>
  intro b d
  exact rfl
 | cons e a iH =>
  intro b d
  simp only [kj, rE, p7]; exact iH b _
theorem sP : ∀ (a b : List bW) (d : List M), eF d (a ++ b) ↔ eF d a /\ eF (run d a) b := by
 intro a
 induction a with
 | nil =>
  intro b d
  simp [eF, rE, p7]
 | cons e a iH =>
  intro b d
  simp only [kj, eF, rE, p7, iH b]; simp only [and_assoc]
def full (d : List M) : Prop := d.length = 3 /\ ∀ x, x < 3 -> d.getD x 0 ≠ 0
theorem iV {d : List M} {x z : Nat} {m : M} (h : x < d.length) : (d.set x m).getD z 0 = if x = z then m else d.getD z 0 := by
 simp only [ug, oZ]
 by_cases e : x = z
 ·subst e; simp [h]
 ·simp [e]
theorem od {d : List M} (h : full d) {x : Nat} {m : M} (hx : x < 3) (hm : m ≠ 0) : full (d.set x m) := by
 refine ⟨by simp [h.1], fun z hz => ?_⟩
 rw [iV (by rw [h.1]; exact hx)]
 split
 ·exact hm
 ·exact h.2 z hz
theorem zC : ∀ (t : List bW) (d : List M), full d -> eF d t -> full (run d t) := by
 intro t
 induction t with
 | nil =>
  intro d h _
  exact h
 | cons e r iH =>
  intro d h t
  obtain ⟨t1, t2, t3, t4, t5, t6, t7⟩ := t
  exact iH _ (od h t1 t5) t7
noncomputable def oz (m : M) : Nat := (fP m).length
theorem Er : ∀ a b : M, a &&& b ≠ a -> oz (a &&& b) < oz a := by decide +kernel
theorem uX : ∀ a : M, a ≠ 0 -> 1 <= oz a := by decide +kernel
noncomputable def pF (d : List M) : Nat := oz (d.getD 0 0) + oz (d.getD 1 0) + oz (d.getD 2 0)
theorem Hj : ∀ (t : List bW) (d : List M), full d -> eF d t -> t.length + 3 <= pF d := by
 intro t
 induction t with
 | nil =>
  intro d h _
  have h0 := uX _ (h.2 0 (by decide)); have h1 := uX _ (h.2 1 (by decide)); have h2 := uX _ (h.2 2 (by decide))
  simp only [xC, pF]; trivial
 | cons e r iH =>
  intro d h t
  obtain ⟨t1, t2, t3, t4, t5, t6, t7⟩ := t
  have ih := iH _ (od h t1 t5) t7
  have hl : e.x < d.length := by rw [h.1]; exact t1
  have c := Er _ _ t6
  rw [t2] at c
  simp only [pF, iV hl] at ih
  simp only [iT, pF]
  rw [t2] at ih
  have : e.x = 0 \/ e.x = 1 \/ e.x = 2 := by trivial
  rcases this with q | q | q <;> rw [q] at c ih <;> simp at ih <;> simp at c ⊢ <;> trivial
theorem qC : full D0 := ⟨rfl, by decide⟩
theorem EX {t : List bW} (h : eF D0 t) : t.length <= 9 := by
 have := Hj t D0 qC h
 have e : pF D0 = 12 := by decide +kernel
 trivial
set_option tactic.hygienic true in
theorem El {d : List M} {x : Nat} {m : M} (h : x < d.length) : (d.set x m).set x (d.getD x 0) = d := by
 rw [nA]
 refine oX fun j => ?_
 rw [oZ]
 split
 ·rename_i e; subst e; simp [h, ug, bR h]
 ·rfl
theorem Ib : ∀ (t : List bW) (d : List M), d.length = 3 -> eF d t -> jc t (run d t) = d := by
 intro t
 induction t with
 | nil =>
  intro d _ _
  exact rfl
 | cons e r iH =>
  intro d h t
  obtain ⟨t1, t2, t3, t4, t5, t6, t7⟩ := t
  have ih := iH _ (by simp [h]) t7
  show (jc r (run (d.set e.x (e.old &&& e.lit.m)) r)).set e.x e.old = d
  rw [ih, t2]
  exact El (by trivial)
theorem yw {t : List bW} (h : eF D0 t) (k : Nat) : jc (t.drop k) (run D0 t) = run D0 (t.take k) /\ eF D0 (t.take k) := by
 have e := (ub k t).symm
 have h' := h
 rw [e, sP] at h'
 refine ⟨?_, h'.1⟩
 conv => lhs; arg 2; rw [e]
 rw [ur]
 exact Ib _ _ (by rw [GI]; rfl) h'.2
theorem vW (t : List bW) : ∀ (d : List M), eF d t -> ∀ e ∈ t, e.x < 3 /\ e.lit.ok := by
 induction t with
 | nil => exact fun u' u' e h => nomatch h
 | cons e r ih =>
  intro d t u hu
  cases hu with
  | head => exact ⟨t.1, t.2.2.1⟩
  | tail _ hu => exact ih _ t.2.2.2.2.2.2 u hu
noncomputable def lL (l : aj) : List bW -> Nat -> Option Nat
 | [], _ => none
 | e :: r, i => if e.x = l.x /\ fo (e.old &&& e.lit.m) l = 1 then some i else lL l r (i + 1)
theorem D7 {l : aj} {u0} : lL l [] u0 = (none) := rfl
theorem Bw {l : aj} {e} {r} {i} : lL l (e :: r) i = (if e.x = l.x /\ fo (e.old &&& e.lit.m) l = 1 then some i else lL l r (i + 1)) := rfl
section
variable {n : Nat} {H : AH} {S : Nat} {y : aO} {st : St} {Q : V -> AH -> Prop}
theorem NG (h : aB H S y st) {l : aj} (hw : l.wide) (ht : ∀ e ∈ st.trail, e.lit.wide) {i : Nat} {Qx : KX} (q : ∀ loc, Qx (.ret (.int i)) loc H) : ∀ (Sa pre : List bW) (x w : Option V), st.trail = pre ++ Sa -> lL l Sa pre.length = some i →
  eM (PT (n + 58)).e (bY (PT (n + 58)).x B6) (.name 3) none ((eV pre.length Sa.length).map az) [some (.ref S), some (au l), some (.int (l.x : Nat)), w, x] H Qx := by
 intro Sa
 induction Sa with
 | nil => exact fun pre x w u' hs => nomatch hs
 | cons e Sa ih =>
  intro pre x w et hs
  have g : cf H (.ref y.trl) (.int (pre.length : Nat)) = some (cV e) := (iD h.trl).trans ((jw _ _).trans (by rw [et]; simp))
  have ZS := ht e (by rw [et]; exact be _ aL)
  have UF := fun x w => ih (pre ++ [e]) x w (by rw [et, fL]; rfl)
  rw [dg] at UF
  rw [Bw] at hs
  refine And.intro rfl (ab (h.attr rfl) (ab g (ab (p6 e) ?_)))
  by_cases c1 : e.x = l.x
  ·refine ab (dP (congrArg Int.ofNat c1)) (ab (AM e) (ab (yG e) ((vF (n := n + 23) ZS).mpr ((wS (n := n + 14) hw).mpr ?_))))
   by_cases c2 : fo (e.old &&& e.lit.m) l = 1
   ·rw [if_pos ⟨c1, c2⟩] at hs
    cases hs
    exact ab (dP c2) (q _)
   ·rw [if_neg (fun q => c2 q.2)] at hs
    exact ab (kO c2) (UF _ _ hs)
  ·rw [if_neg (fun q => c1 q.1)] at hs
   exact ab (kO fun z => c1 (Int.ofNat.inj z)) (UF _ _ hs)
theorem JE (h : aB H S y st) {l : aj} (hw : l.wide) (hx : l.x < 3) (hf : st.firsts = D0) (hD : st.doms.length = 3) (ht : ∀ e ∈ st.trail, e.lit.wide) (hl : st.trail.length < 4096) {z : Int} (hz : (fo 15#4 l = 1 /\ z = -1) \/ (fo 15#4 l ≠ 1 /\ ∃ i, lL l st.trail 0 = some i /\ z = i)) :
  WC (n + 60) 9 [.ref S, au l] H Q ↔ Q (.int z) H := by
 refine d7 ?_
 have e15 : st.firsts.getD l.x 0 = 15#4 := by
  rw [hf]
  rcases or3 hx with q | q | q <;> rw [q] <;> rfl
 refine bD (f := 9) rfl rfl (ab (fG _) (h.mm tm_1_17 ((MO (n := n + 45) h (by rw [hf]; exact hx)).mpr ?_)))
 rw [e15]
 refine (wS (n := n + 16) hw).mpr ?_
 rcases hz with ⟨s1, rfl⟩ | ⟨s1, i, hi, rfl⟩
 ·exact ab (dP s1) (cx (Q := fun x H' => x = V.int (-1) /\ H' = H) ⟨rfl, rfl⟩)
 ·have key := fun Qx q => NG (n := n) h hw ht (Qx := Qx) q st.trail [] none none rfl hi
  rw [show (eV ([] : List bW).length st.trail.length).map az = (bQ ((((st.trail.map cV).length : Nat) : Int)).toNat).map fun (k : Nat) => V.int (k : Int) by rw [aM, xU]; rfl] at key
  exact ab (kO s1) (ab (h.attr rfl) (aK (eZ h.trl) (And.intro (by rw [aM]; exact hl) (key _ fun loc => cx (Q := fun x H' => x = V.int i /\ H' = H) ⟨rfl, rfl⟩))))
end
end
section
noncomputable def ja (l : aj) : List M -> List bW -> Nat -> Nat
 | _, [], i => i
 | d, e :: r, i => if (d.set e.x (d.getD e.x 0 &&& e.lit.m)).getD l.x 0 &&& l.m = 0 then i else ja l (d.set e.x (d.getD e.x 0 &&& e.lit.m)) r (i + 1)
theorem JD {l : aj} {u0} {i} : ja l u0 [] i = (i) := rfl
theorem JG {l : aj} {d} {e} {r} {i} : ja l d (e :: r) i = (if (d.set e.x (d.getD e.x 0 &&& e.lit.m)).getD l.x 0 &&& l.m = 0 then i else ja l (d.set e.x (d.getD e.x 0 &&& e.lit.m)) r (i + 1)) := rfl
noncomputable def o9 (l : aj) (t : List bW) : Int := if 15#4 &&& l.m = 0 then -1 else ja l D0 t 0
theorem vO {l : aj} (h : l.ok) (m : M) : fo m (neg l) = 1 ↔ m &&& l.m = 0 := by
 have e : ∀ a b : M, (a &&& ~~~ b = a) ↔ a &&& b = 0 := by decide +kernel
 unfold fo
 rw [Kt h]
 by_cases c : m &&& l.m = 0
 ·rw [if_pos ((e _ _).mpr c)]; simp [c]
 ·rw [if_neg fun q => c ((e _ _).mp q)]
  simp only [c, iff_false]
  split <;> decide
theorem nZ {l : aj} {m : M} (h : m ≠ 0) : fo m l = -1 ↔ m &&& l.m = 0 := by
 unfold fo
 by_cases c : m &&& l.m = m
 ·rw [if_pos c, c]; simp; exact h
 ·rw [if_neg c]; by_cases c2 : m &&& l.m = 0
  ·simp [c2]
  ·rw [if_neg c2]; simp; exact c2
theorem rW {l : aj} {m : M} : fo m l = 1 ↔ m &&& l.m = m := by
 unfold fo
 by_cases c : m &&& l.m = m
 ·simp [c]
 ·rw [if_neg c]
  refine ⟨fun h => ?_, fun h => absurd h c⟩
  split at h <;> simp at h
theorem GR : ∀ a b c : M, a &&& c = 0 -> a &&& b &&& c = 0 := by decide +kernel
set_option tactic.hygienic true in
theorem AK {l : aj} : ∀ (t : List bW) (d : List M), full d -> eF d t -> l.x < 3 -> d.getD l.x 0 &&& l.m = 0 -> (run d t).getD l.x 0 &&& l.m = 0 := by
 intro t
 induction t with
 | nil =>
  intro d _ _ _ h
  exact h
 | cons e r iH =>
  intro d hd t hx h
  obtain ⟨t1, t2, t3, t4, t5, t6, t7⟩ := t
  refine iH _ (od hd t1 t5) t7 hx ?_
  rw [iV (by rw [hd.1]; exact t1)]
  split
  ·rename_i q; rw [t2, q]; exact GR _ _ _ h
  ·exact h
theorem GY {l : aj} (hl : l.ok) (t : List bW) : ∀ (d : List M) (i : Nat), full d -> eF d t -> d.getD l.x 0 &&& l.m ≠ 0 →
  ((run d t).getD l.x 0 &&& l.m = 0 -> lL (neg l) t i = some (ja l d t i)) /\ ((run d t).getD l.x 0 &&& l.m ≠ 0 -> ja l d t i = i + t.length) := by
 induction t with
 | nil => exact fun d i hd u' h => ⟨fun c => absurd c h, fun u' => rfl⟩
 | cons e r IH =>
  intro d i hd t h
  obtain ⟨t1, t2, t3, t4, t5, t6, t7⟩ := t
  have Ti : e.x < d.length := by rw [hd.1]; exact t1
  have ih := IH _ (i + 1) (od hd t1 t5) t7
  simp only [rE, p7, D7, Bw, JD, JG, AE, vO hl, <-t2, iT]
  rw [iV Ti]
  by_cases q : e.x = l.x
  ·by_cases c : e.old &&& e.lit.m &&& l.m = 0
   ·simp only [q, c, if_true, and_self]
    refine ⟨fun u' => trivial, fun z => absurd ?_ z⟩
    rw [<-q]
    rw [q]
    refine AK r _ (by rw [<-q]; exact od hd t1 t5) (by rw [<-q]; exact t7) hl.1 ?_
    rw [iV (by rw [<-q]; exact Ti)]; simpa using c
   ·simp only [q, if_true, c, and_false, if_false]
    rw [q] at ih
    have := ih (by rw [iV (by rw [<-q]; exact Ti)]; simpa using c)
    refine ⟨this.1, fun z => ?_⟩
    have := this.2 z; trivial
  ·simp only [q, if_false, false_and, h]
   have := ih (by rw [iV Ti, if_neg q]; exact h)
   refine ⟨this.1, fun z => ?_⟩
   have := this.2 z; trivial
structure bf (st : St) : Prop where
 fi : st.firsts = D0
 tr : eF D0 st.trail
 dm : st.doms = run D0 st.trail
 nk : (st.news.map (·.1)).Nodup
 nb : ∀ p ∈ st.news, 0 <= p.1 /\ p.1 < 3
 ma : ∀ k ∈ st.marks, k <= st.trail.length
 ms : st.marks.Pairwise (· <= ·)
variable {st : St}
theorem bf.full (t : bf st) : full st.doms := by rw [t.dm]; exact zC _ _ qC t.tr
theorem bf.len (t : bf st) : st.doms.length = 3 := t.full.1
theorem bf.ne (t : bf st) {x : Nat} (h : x < 3) : st.dom x ≠ 0 := t.full.2 x h
theorem Ct : ∀ (N : Nat) {l : List Int}, l.Nodup -> (∀ p ∈ l, 0 <= p /\ p < N) -> l.length <= N := by
 intro N
 induction N with
 | zero =>
  intro l nd h
  rcases l with _ | ⟨a, r⟩
  ·simp
  ·have := h a aL; trivial
 | succ N iH =>
  intro l nd h
  have ih := iH (nd.erase (N : Int)) fun p hp => by
   have h1 := h p (Ro hp)
   have h2 : p ≠ N := fun e => by rw [e] at hp; exact nd.not_mem_erase hp
   trivial
  rw [List.length_erase] at ih
  split at ih <;> trivial
theorem yL {l : List Int} (nd : l.Nodup) (h : ∀ p ∈ l, 0 <= p /\ p < 3) : l.length <= 3 := Ct 3 nd h
theorem bf.nl (t : bf st) : st.news.length <= 3 := by
 have := yL t.nk fun p hp => by obtain ⟨a, ha, rfl⟩ := bg.mp hp; exact t.nb a ha
 simpa using this
theorem bf.tl (t : bf st) : st.trail.length <= 9 := EX t.tr
noncomputable def sd (st : St) (l : aj) : Int := fo (st.dom l.x) l
section
variable {n : Nat} {H : AH} {S : Nat} {y : aO} {st : St} {Q : V -> AH -> Prop}
theorem lO (h : aB H S y st) (t : bf st) {l : aj} (hl : l.ok) : WC (n + 46) 35 [.ref S, au l] H Q ↔ Q (.int (sd st l)) H := Mj h hl.wide (by rw [t.len]; exact hl.1)
theorem Kz (h : aB H S y st) (t : bf st) {l : aj} (hl : l.ok) {B : Nat} : WC (n + 70) 22 [.ref B, .ref S, au l] H Q ↔ Q (.int (o9 l st.trail)) H := by
 refine d7 ?_
 have ne := t.ne hl.1
 have VF : D0.getD l.x 0 = 15#4 := by
  rcases or3 hl.1 with q | q | q <;> rw [q] <;> rfl
 have sp := GY hl st.trail D0 0 qC t.tr
 rw [<-t.dm, VF] at sp
 have hs : sd st l = -1 ↔ st.dom l.x &&& l.m = 0 := nZ ne
 have R7 := fun (z : Int) hz Q => (JE (n := n + 6) (Q := Q) h (Lm hl) (by rw [AE]; exact hl.1) t.fi t.len (fun e he => (vW _ _ t.tr e he).2.wide) (n3 t.tl rfl) (z := z) hz).mpr
 refine bD (f := 22) rfl rfl (h.mm tm_1_19 ((lO (n := n + 19) h t hl).mpr ?_))
 unfold o9
 by_cases c : st.dom l.x &&& l.m = 0
 ·refine ab (dP (hs.mpr c)) ((p0 (n := n + 53)).mpr ?_)
  by_cases c2 : 15#4 &&& l.m = 0
  ·rw [if_pos c2]
   exact R7 (-1) (.inl ⟨(vO hl _).mpr c2, rfl⟩) _ (cx (Q := fun x H' => x = V.int (-1) /\ H' = H) ⟨rfl, rfl⟩)
  ·rw [if_neg c2]
   exact R7 _ (.inr ⟨fun q => c2 ((vO hl _).mp q), _, (sp c2).1 c, rfl⟩) _ (cx (Q := fun x H' => x = V.int _ /\ H' = H) ⟨rfl, rfl⟩)
 ·have c2 : ¬ 15#4 &&& l.m = 0 := fun q => c (by
   have := AK st.trail D0 qC t.tr hl.1 (by rw [VF]; exact q)
   rwa [<-t.dm] at this)
  rw [if_neg c2]
  exact ab (kO fun q => c (hs.mp q)) (ab (h.attr rfl) (aK (eZ h.trl) (cx (Q := fun x H' => x = V.int _ /\ H' = H) ⟨by rw [aM, (sp c2).2 c, Nat.zero_add]; rfl, rfl⟩)))
end
end
section
structure c8 (wa : List (Int × (Nat × List Nat))) (N : Nat) : Prop where
 nk : (wa.map (·.1)).Nodup
 kb : ∀ x ∈ wa.map (·.1), 0 <= x /\ x < 3
 nd : ∀ z, (wl wa z).Nodup
 lt : ∀ z, ∀ k ∈ wl wa z, k < N
theorem c8.len {wa : List (Int × (Nat × List Nat))} {N : Nat} (w : c8 wa N) : wa.length <= 3 := by
 have := yL w.nk w.kb; simpa using this
theorem OD {l : List Nat} {N : Nat} (nd : l.Nodup) (h : ∀ p ∈ l, p < N) : l.length <= N := by
 have := Ct N (l := l.map fun (k : Nat) => (k : Int)) ?_ ?_
 ·simpa using this
 ·rw [List.nodup_iff_pairwise_ne, C6]; exact nd.imp fun q e => q (by trivial)
 ·intro p hp
  obtain ⟨k, hk, rfl⟩ := bg.mp hp
  have := h k hk; trivial
set_option tactic.hygienic true in
theorem Cg {l : List Nat} {k j : Nat} : j ∈ kU l k ↔ j ∈ l \/ j = k := by
 unfold kU; split
 ·rename_i h; exact ⟨.inl, fun q => q.elim id fun e => e ▸ h⟩
 ·simp
set_option tactic.hygienic true in
theorem Pw {l : List Nat} {k : Nat} (h : l.Nodup) : (kU l k).Nodup := by
 unfold kU; split
 ·exact h
 ·rename_i hk
  rw [bX]
  exact ⟨h, by simp, fun a ha c hc e => by simp only [aN] at hc; subst hc; subst e; exact hk ha⟩
theorem O6 {α β : Type} {f : α -> β} {l l' : List β} (h : l.Perm l') : ∀ {c : List α}, l' = c.map f -> ∃ p : List α, p.Perm c /\ l = p.map f := by
 induction h with
 | nil =>
  intro c e
  rcases c with _ | ⟨a, r⟩
  ·exact ⟨[], .nil, rfl⟩
  ·simp at e
 | cons x h ih =>
  intro c e
  rcases c with _ | ⟨a, r⟩
  ·simp at e
  ·simp only [cA, Do] at e
   obtain ⟨p, h1, h2⟩ := ih e.2
   exact ⟨a :: p, h1.cons a, by rw [cA, h2, e.1]⟩
 | swap x y l =>
  intro c e
  rcases c with _ | ⟨a, _ | ⟨b, r⟩⟩
  ·simp at e
  ·simp at e
  ·simp only [cA, Do] at e
   refine ⟨b :: a :: r, .swap _ _ _, ?_⟩
   rw [cA, cA, e.1, e.2.1, e.2.2]
 | trans h1 h2 i1 i2 =>
  intro c e
  obtain ⟨p, a1, a2⟩ := i2 e
  obtain ⟨p', b1, b2⟩ := i1 a2
  exact ⟨p', b1.trans a1, b2⟩
noncomputable def rk (st : St) (l : aj) : V := .tup [.int (-(o9 l st.trail)), au l]
noncomputable def fr (c : List aj) : List Int := (c.take 2).map fun l => (l.x : Int)
theorem qt (l : aj) : (au l).isLit = true := by
 obtain ⟨x, s, k⟩ := l
 have : ∀ s, (fM (sg s)).isSome = true := by intro s; cases s <;> decide +kernel
 simp [V.isLit, au, gU]; simpa using this s
theorem IM (st : St) (l : aj) : (rk st l).isRank = true := by
 obtain ⟨r, e⟩ := oK.mp (qt l)
 show ((gU (au l)).map _).isSome = true
 rw [e]; rfl
theorem AI (st : St) {c : List aj} (h : c.length <= 4) : sortable (c.map (rk st)) = true := by
 unfold sortable
 have : (c.map (rk st)).all V.isRank = true := by
  rw [bJ]; intro v hv; obtain ⟨l, _, rfl⟩ := bg.mp hv; exact IM _ _
 simp [this]; trivial
section
variable {n : Nat} {H : AH} {S B : Nat} {y : aO} {st : St} {b : Bk} {Q : V -> AH -> Prop} {N : Nat}
theorem aH.a8 (h : aH H B b) : eP H (.ref B) 8 = some (.ref b.cls) := by simp [eP, h.inst, h.attrs, gk]
theorem aH.a9 (h : aH H B b) : eP H (.ref B) 9 = some (.ref b.uni) := by simp [eP, h.inst, h.attrs, gk]
theorem aH.a10 (h : aH H B b) : eP H (.ref B) 10 = some (.ref b.fre) := by simp [eP, h.inst, h.attrs, gk]
theorem aH.a11 (h : aH H B b) : eP H (.ref B) 11 = some (.ref b.wat) := by simp [eP, h.inst, h.attrs, gk]
theorem aB.a2 (h : aB H S y st) : eP H (.ref S) 2 = some (.ref y.trl) := by simp [eP, h.inst, h.attrs, dW]
theorem aB.a6 (h : aB H S y st) : eP H (.ref S) 6 = some (.bool st.failed) := by simp [eP, h.inst, h.attrs, dW]
theorem aB.a7 (h : aB H S y st) : eP H (.ref S) 7 = some (.tup st.clash) := by simp [eP, h.inst, h.attrs, dW]
theorem aH.wm (h : aH H B b) {m : Nat} {es : List E} {loc : Loc} : WM n B m es loc H Q = c7 (cP 0 m) (kMi3 (WC n) (ej n es) B loc H Q) := by
 simp [sT, h.inst, h.attrs]
theorem aB.wm (h : aB H S y st) {m : Nat} {es : List E} {loc : Loc} : WM n S m es loc H Q = c7 (cP 1 m) (kMi3 (WC n) (ej n es) S loc H Q) := by
 simp [sT, h.inst, h.attrs]
theorem aH.sub8 (h : aH H B b) {k a : Nat} {c : List aj} (hk : b.cl[k]? = some (a, c)) : cf H (.ref b.cls) (.int k) = some (.ref a) := by
 rw [iD h.cls, jw, cM, hk]; rfl
theorem aH.cla (h : aH H B b) {k a : Nat} {c : List aj} (hk : b.cl[k]? = some (a, c)) : ag H a = some (.list (c.map au)) := h.clL _ (aT hk)
theorem aH.lit (h : aH H B b) {k a : Nat} {c : List aj} (hk : b.cl[k]? = some (a, c)) {i : Nat} {l : aj} (hi : c[i]? = some l) : cf H (.ref a) (.int i) = some (au l) := by
 rw [iD (h.cla hk), jw, cM, hi]; rfl
theorem aH.lit0 (h : aH H B b) {k a : Nat} {c : List aj} (hk : b.cl[k]? = some (a, c)) {l : aj} (hi : c[0]? = some l) : cf H (.ref a) (.int 0) = some (au l) := h.lit hk hi
theorem aH.lit1 (h : aH H B b) {k a : Nat} {c : List aj} (hk : b.cl[k]? = some (a, c)) {l : aj} (hi : c[1]? = some l) : cf H (.ref a) (.int 1) = some (au l) := h.lit hk hi
set_option tactic.hygienic true in
theorem uY (h : aH H B b) (wi : c8 b.wa N) (hN : N <= 8) {x k : Nat} (hx : x < 3) (hk : k < N) (q : ∀ H' Sn, dc H B b H' { b with wa := Sn } -> c8 Sn N -> (∀ j z, j ∈ wl Sn z ↔ j ∈ wl b.wa z \/ (j = k /\ z = (x : Int))) -> Q .none H') : WC (n + 20) 23 [.ref B, .int (x : Nat), .int k] H Q := by
 refine F7 h (by have := wi.len; trivial) (by have := OD (wi.nd x) (wi.lt x); trivial) fun H' Sn g e1 e2 => q H' Sn g ?_ ?_
 ·refine ⟨?_, ?_, fun z => ?_, fun z j hj => ?_⟩
  ·rcases e2 with e2 | ⟨e2, e3⟩
   ·rw [e2]; exact wi.nk
   ·rw [e2, bX]
    exact ⟨wi.nk, by simp, fun a ha c hc e => by simp only [aN] at hc; subst hc; subst e; exact e3 ha⟩
  ·intro z hz
   rcases e2 with e2 | ⟨e2, e3⟩
   ·exact wi.kb z (e2 ▸ hz)
   ·rw [e2, aW, aN] at hz
    rcases hz with hz | rfl
    ·exact wi.kb z hz
    ·trivial
  ·rw [e1]; split
   ·exact Pw (wi.nd z)
   ·exact wi.nd z
  ·rw [e1] at hj; split at hj
   ·rcases Cg.mp hj with hj | rfl
    ·exact wi.lt z j hj
    ·exact hk
   ·exact wi.lt z j hj
 ·intro j z
  rw [e1]; split
  ·rename_i e; subst e; rw [Cg]; simp
  ·rename_i e; simp only [iff_self_or, and_imp]; intro _ e2; exact absurd e2.symm e
theorem FW {k : Nat} {p : List aj} : ∀ z ∈ Bk.foot B { b with cl := b.cl.set k (H.length, p) }, z ∈ b.foot B \/ H.length <= z := by
 intro z hz
 simp only [Bk.foot, Bk.base, aW, bg] at hz ⊢
 rcases hz with h | ⟨u, hu, rfl⟩ | h
 ·exact .inl (.inl h)
 ·rcases rL hu with rfl | ⟨j, _, e⟩
  ·exact .inr (bq _)
  ·exact .inl (.inr (.inl ⟨u, aT e, rfl⟩))
 ·exact .inl (.inr (.inr h))
theorem Om {G : Prop} {p : List aj} (h : 2 <= p.length) (k : ∀ l0 l1 : aj, p[0]? = some l0 -> p[1]? = some l1 -> l0 ∈ p -> l1 ∈ p -> (∀ z, z ∈ fr p ↔ z = (l0.x : Int) \/ z = (l1.x : Int)) -> G) : G :=
 match p, h, k with
 | l0 :: l1 :: r, _, k => k l0 l1 rfl rfl aL (aQ _ aL) fun z => aP.trans (or_congr kr aN)
theorem z7 (w : W2 H S y st B b) (t : bf st) {k a : Nat} {c : List aj} (hk : b.cl[k]? = some (a, c)) (h2 : 2 <= c.length) (h4 : c.length <= 4) (ok : ∀ l ∈ c, l.ok) (wi : c8 b.wa N) (hN : N <= 8) (Ui : k < N)
  (hn : ∀ z, k ∉ wl b.wa z)
  (q : ∀ H' a' p Sn, p.Perm c -> cq (c.map (rk st)) = p.map (rk st) -> dc H B b H' { b with cl := b.cl.set k (a', p), wa := Sn } -> c8 Sn N -> (∀ z, k ∈ wl Sn z ↔ z ∈ fr p) -> (∀ j z, j ≠ k -> (j ∈ wl Sn z ↔ j ∈ wl b.wa z)) -> Q .none H') : WC (n + 100) 24 [.ref B, .ref S, .int k] H Q := by
 have ha := w.ba.cla hk
 have SZ : k < b.cl.length := (bG.mp hk).1
 obtain ⟨p, Ut, Vf⟩ := O6 (fW (c.map (rk st))) rfl
 refine Om (p := p) (Ut.length_eq ▸ h2) fun l0 l1 e0 e1 m0 m1 ef => ?_
 have h1 := Ks w.ba (c' := p) hk
 have hh := w.ba.app [ar.list (p.map au)]
 have g1 : dc H B b ((H ++ [ar.list (p.map au)]).set b.cls (.list ((b.cl.set k (H.length, p)).map refOf))) { b with cl := b.cl.set k (H.length, p) } := ⟨h1, ((Fr.refl _ _).app _).set (.inl (by simp [Bk.foot, Bk.base])), FW⟩
 have Uv : (b.cl.set k (H.length, p))[k]? = some (H.length, p) := kf SZ
 have si : gL (H ++ [ar.list (p.map au)]) (.ref b.cls) (.int k) (.ref H.length) = some ((H ++ [ar.list (p.map au)]).set b.cls (.list ((b.cl.set k (H.length, p)).map refOf))) :=
  (n9 hh.cls (by rw [aM]; exact SZ)).trans (by rw [kq]; rfl)
 generalize (H ++ [ar.list (p.map au)]).set b.cls (.list ((b.cl.set k (H.length, p)).map refOf)) = H1 at h1 g1 si
 have bs : dq H .sorted [.lst (c.map (rk st))] = some (.lst (p.map (rk st)), H) := (if_pos (AI st h4)).trans (by rw [Vf])
 refine bD (f := 24) rfl rfl (ab w.ba.a8 (ab (w.ba.sub8 hk) (fh ha (And.intro ⟨rfl, by rw [aM]; exact n3 h4 rfl⟩ (pw (n := n + 97) au (rk st) (fun q => ∃ x z, q = [some (.ref B), some (.ref S), some (.int k), none, x, z]) (by simp [bU, ha]) c rfl ⟨_, _, rfl⟩ ?_ ?_)))))
 ·rintro l hl loc ⟨x, z, rfl⟩
  exact ⟨_, rfl, ⟨_, _, rfl⟩, w.ba.mm tm_0_7 ((Kz (n := n + 24) w.sa t (ok l hl)).mpr ⟨rfl, rfl⟩)⟩
 refine aK bs (And.intro ⟨rfl, by rw [aM, Ut.length_eq]; exact n3 h4 rfl⟩ (pw (n := n + 97) (rk st) au (fun q => ∃ x z u, q = [some (.ref B), some (.ref S), some (.int k), some (.lst (c.map (rk st))), x, z, u]) rfl p rfl ⟨_, _, _, rfl⟩ ?_ ?_))
 ·rintro l hl loc ⟨x, z, u, rfl⟩
  exact ⟨_, rfl, ⟨_, _, _, rfl⟩, And.intro rfl rfl⟩
 refine ab hh.a8 (ab si (h1.mm tm_0_8 (ab h1.a8 (ab (h1.sub8 Uv) (ab (h1.lit0 Uv e0) (ab (fG _) (uY (n := n + 77) h1 wi hN (ok l0 (Ut.mem_iff.mp m0)).1 Ui fun H2 WF g2 i2 e2 => ?_)))))))
 have TT := g2.at_
 refine TT.mm tm_0_8 (ab TT.a8 (ab (TT.sub8 Uv) (ab (TT.lit1 Uv e1) (ab (fG _) (uY (n := n + 77) TT i2 hN (ok l1 (Ut.mem_iff.mp m1)).1 Ui fun H3 Ux g3 i3 e3 => ?_)))))
 refine nB w.ba ((g1.trans g2).trans g3) fun H' g => q H' _ _ _ Ut Vf g i3 (fun z => (e3 k z).trans ?_) fun j z hj => (e3 j z).trans ((or_iff_left fun x => hj x.1).trans ((e2 j z).trans (or_iff_left fun x => hj x.1)))
 refine (or_congr ((e2 k z).trans (or_iff_right (hn z))) kr).trans (Iff.trans ?_ (ef z).symm)
 exact or_congr ⟨fun x => x.2, fun x => ⟨rfl, x⟩⟩ ⟨fun x => x.2, fun x => ⟨rfl, x⟩⟩
end
end
section
theorem HD : ∀ {l : List Nat} {k : Nat}, k ∈ l -> i8 (k : Int) (l.map az) = some ((l.erase k).map az) := by
 intro l
 induction l with
 | nil =>
  intro k h
  simp at h
 | cons a r iH =>
  intro k h
  simp only [cA, az, MX, FO, oI_i]
  by_cases e : a = k
  ·subst e; simp
  ·have e' : ¬ (a : Int) = k := by trivial
   rw [if_neg e', iH ((aP.mp h).resolve_left fun q => e q.symm), List.erase_cons_tail (by simpa using e)]; rfl
theorem JM (l : List Nat) : (l.map az).all V.isInt = true := by
 rw [bJ]; intro v hv; obtain ⟨a, _, rfl⟩ := bg.mp hv; rfl
theorem LH {wa : List (Int × (Nat × List Nat))} {x : Int} {k : Nat} (h : k ∈ wl wa x) : ∃ a l, bS wa x = some (a, l) /\ wl wa x = l := by
 unfold wl at h ⊢
 rcases hx : bS wa x with _ | ⟨a, l⟩
 ·rw [hx] at h; simp at h
 ·exact ⟨a, l, rfl, rfl⟩
theorem uz {wa : List (Int × (Nat × List Nat))} {x : Int} {a : Nat} {l : List Nat} (z : Int) : wl (bV wa x (a, l)) z = if x = z then l else wl wa z := by
 unfold wl; rw [pK]
 by_cases e : x = z
 ·rw [if_pos e, if_pos e]
 ·rw [if_neg e, if_neg e]
set_option tactic.hygienic true in
theorem c8.erase {wa : List (Int × (Nat × List Nat))} {N : Nat} (w : c8 wa N) {x : Int} {a : Nat} {l : List Nat} (h : bS wa x = some (a, l)) (k : Nat) : c8 (bV wa x (a, l.erase k)) N /\ ∀ j z, j ∈ wl (bV wa x (a, l.erase k)) z ↔ j ∈ wl wa z /\ ¬ (j = k /\ z = x) := by
 have hl : wl wa x = l := by unfold wl; rw [h]
 have nd := w.nd x
 rw [hl] at nd
 refine ⟨⟨?_, ?_, fun z => ?_, fun z j hj => ?_⟩, fun j z => ?_⟩
 ·rw [td h]; exact w.nk
 ·rw [td h]; exact w.kb
 ·rw [uz]; split
  ·exact nd.erase k
  ·exact w.nd z
 ·rw [uz] at hj; split at hj
  ·rename_i e; subst e; exact w.lt x j (hl ▸ Ro hj)
  ·exact w.lt z j hj
 ·rw [uz]; split
  ·rename_i e; subst e
   rw [nd.mem_erase_iff, hl]; simp [and_comm]
  ·rename_i e
   have : ¬ z = x := fun q => e q.symm
   simp [this]
noncomputable def cE (c : List aj) (p i : Nat) (l g : aj) : List aj := (c.set p l).set i g
noncomputable def hE (st : St) (c : List aj) (p : Nat) : List Nat -> List aj
 | [] => c
 | i :: is => match c[i]?, c[p]? with
  | some l, some g => if sd st l = -1 then hE st c p is else cE c p i l g
  | _, _ => c
theorem Gw {st : St} {c : List aj} {p : Nat}  : hE st c p [] = (c) := rfl
theorem Ar {st : St} {c : List aj} {p : Nat} {i} {is} : hE st c p (i :: is) = (match c[i]?, c[p]? with
  | some l, some g => if sd st l = -1 then hE st c p is else cE c p i l g
  | _, _ => c) := rfl
noncomputable def ia (st : St) (c : List aj) (p : Nat) : List aj := hE st c p (eV 2 (c.length - 2))
section
variable {n : Nat} {H : AH} {S B : Nat} {y : aO} {st : St} {b : Bk} {Q : V -> AH -> Prop} {N : Nat}
theorem E8 {c : List aj} {p i : Nat} {l g : aj} (hp : p < 2) (h2 : 2 <= i) (hi : i < c.length) (hg : c[p]? = some g) :
  ∃ l0 l1 o, (cE c p i l g)[0]? = some l0 /\ (cE c p i l g)[1]? = some l1 /\ (cE c p i l g)[p]? = some l /\ (∀ z, z ∈ fr c ↔ z = (g.x : Int) \/ z = (o.x : Int)) /\ (∀ z, z ∈ fr (cE c p i l g) ↔ z = (l.x : Int) \/ z = (o.x : Int)) /\ ((l0 = l /\ l1 = o) \/ (l0 = o /\ l1 = l)) := by
 rcases c with _ | ⟨c0, _ | ⟨c1, r⟩⟩
 ·simp at hi
 ·simp at hi; trivial
 rcases i with _ | _ | i
 ·trivial
 ·trivial
 have : p = 0 \/ p = 1 := by trivial
 rcases this with rfl | rfl
 ·simp at hg; subst hg
  exact ⟨l, c1, c1, by simp [cE], by simp [cE], by simp [cE], by intro z; simp [fr], by intro z; simp [cE, fr], .inl ⟨rfl, rfl⟩⟩
 ·simp at hg; subst hg
  exact ⟨c0, l, c0, by simp [cE], by simp [cE], by simp [cE], by intro z; simp [fr]; exact or_comm, by intro z; simp [cE, fr]; exact or_comm, .inr ⟨rfl, rfl⟩⟩
theorem IE {G : Prop} {c : List aj} {p i : Nat} {l g : aj} (hp : p < 2) (h2 : 2 <= i) (hi : i < c.length) (hg : c[p]? = some g)
  (k : ∀ l0 l1 o : aj, (cE c p i l g)[0]? = some l0 -> (cE c p i l g)[1]? = some l1 -> (cE c p i l g)[p]? = some l -> (∀ z, z ∈ fr c ↔ z = (g.x : Int) \/ z = (o.x : Int)) -> (∀ z, z ∈ fr (cE c p i l g) ↔ z = (l.x : Int) \/ z = (o.x : Int)) -> ((∀ z : Int, z = l0.x \/ z = l1.x -> z = l.x \/ z = o.x) /\ ∀ z : Int, z = o.x -> z = l0.x \/ z = l1.x) -> G) : G := by
 obtain ⟨l0, l1, o, e0, e1, ep, ef, Yh, eo⟩ := E8 (l := l) hp h2 hi hg
 refine k l0 l1 o e0 e1 ep ef Yh ?_
 rcases eo with ⟨rfl, rfl⟩ | ⟨rfl, rfl⟩
 ·exact ⟨fun u' => id, fun u' => .inr⟩
 ·exact ⟨fun u' => Or.symm, fun u' => .inl⟩
theorem aH.subw (h : aH H B b) {x : Int} {a : Nat} {l : List Nat} (hx : bS b.wa x = some (a, l)) : cf H (.ref b.wat) (.int x) = some (.ref a) := by
 show iW (ag H b.wat) _ _ = _
 rw [h.wat]
 show dictAt _ _ = _
 simp only [pG, hx, dN]
theorem Iu {i m : Nat} {es : List E} {loc : Loc} {l : List V} (h : ag H i = some (.list l)) : WM n i m es loc H Q = ej n es loc H (kMl i m Q) := by
 simp only [sT, h, isO_some, kM_list]
theorem O9 {i m : Nat} {es : List E} {loc : Loc} {l : List (Int × V)} (h : ag H i = some (.dict l)) : WM n i m es loc H Q = ej n es loc H (kMd i m Q) := by
 simp only [sT, h, isO_some, kM_dict]
theorem OK {i : Nat} {l : List Nat} {k : Nat} (h : k ∈ l) : dB H i (l.map az) 3 [.int k] = some (.none, H.set i (.list ((l.erase k).map az))) := by
 simp only [sH, ze, uK, z6, JM, if_true, HD h, dN]
theorem BJ {A : Prop} {z g l o : Int} (h : A ↔ z = g \/ z = o) (c : g = l \/ g = o) : (A \/ z = l) ↔ z = l \/ z = o :=
 ⟨fun q => q.elim (fun q => (h.mp q).elim (fun e => c.elim (fun x => .inl (e.trans x)) fun x => .inr (e.trans x)) .inr) .inl, fun q => q.elim .inr fun q => .inl (h.mpr (.inr q))⟩
theorem OM {A B : Prop} {z g l o : Int} (h : A ↔ z = g \/ z = o) (n : ¬ g = o) (hb : B ↔ z = g) : ((A /\ ¬ B) \/ z = l) ↔ z = l \/ z = o :=
 ⟨fun q => q.elim (fun q => (h.mp q.1).elim (fun e => absurd (hb.mpr e) q.2) .inr) .inl, fun q => q.elim .inr fun q => .inl ⟨h.mpr (.inr q), fun x => n ((hb.mp x).symm.trans q)⟩⟩
theorem MS (w : aH H B b) {k a : Nat} {c c' : List aj} (hk : b.cl[k]? = some (a, c)) : dc H B b (H.set a (.list (c'.map au))) { b with cl := b.cl.set k (a, c') } := by
 refine ⟨GQ w hk, (Fr.refl _ _).set (.inl ?_), fun z hz => .inl ?_⟩
 ·exact be _ (aV _ (bg.mpr ⟨_, aT hk, rfl⟩))
 ·rcases aW.mp hz with h | h
  ·exact aV _ h
  ·refine be _ ?_
   rcases aW.mp h with h | h
   ·refine aV _ ?_
    obtain ⟨v, hv, rfl⟩ := bg.mp h
    rcases rL hv with rfl | ⟨j, _, e⟩
    ·exact bg.mpr ⟨_, aT hk, rfl⟩
    ·exact bg.mpr ⟨v, aT e, rfl⟩
   ·exact be _ h
theorem I7 (w : W2 H S y st B b) (t : bf st) {k a : Nat} {c : List aj} (hk : b.cl[k]? = some (a, c)) (ok : ∀ l ∈ c, l.ok) (wi : c8 b.wa N) (hN : N <= 8) (Ui : k < N)
  (wk : ∀ z, k ∈ wl b.wa z ↔ z ∈ fr c) {p i : Nat} (hp : p < 2) (h2 : 2 <= i) {l g : aj} (hi : c[i]? = some l) (hg : c[p]? = some g) (hl : ¬ sd st l = -1) {u : Option V}
  (q : ∀ H' Sn, dc H B b H' { b with cl := b.cl.set k (a, cE c p i l g), wa := Sn } -> c8 Sn N -> (∀ z, k ∈ wl Sn z ↔ z ∈ fr (cE c p i l g)) -> (∀ j z, j ≠ k -> (j ∈ wl Sn z ↔ j ∈ wl b.wa z)) -> Q .none H') :
  bN (n + 60) vq [some (.ref B), some (.ref S), some (.int k), some (.int p), some (.ref a), some (.int i), u] H (onFl (fun u' u' => False) fun v u' H' => v = .none /\ Q .none H') := by
 have SF : p < c.length := (bG.mp hg).1
 have Uj : i < c.length := (bG.mp hi).1
 refine IE (l := l) hp h2 Uj hg fun l0 l1 o e0 e1 ep ef Yh eo => ?_
 have Tx := ok l (aT hi)
 have SZ : k < b.cl.length := (bG.mp hk).1
 have ha := w.ba.cla hk
 have g2 := MS w.ba (c' := cE c p i l g) hk
 have h2 := g2.at_
 have Ta : (b.cl.set k (a, cE c p i l g))[k]? = some (a, cE c p i l g) := kf SZ
 have sI : gL H (.ref a) (.int p) (au l) = _ := n9 ha (by rw [aM]; exact SF)
 have sJ : gL (H.set a (.list ((c.map au).set p (au l)))) (.ref a) (.int i) (au g) = some (H.set a (.list ((cE c p i l g).map au))) :=
  (n9 (fU ha) (by rw [mZ, aM]; exact Uj)).trans (by rw [nA, cE, kq, kq])
 have WD := fun z => (wk z).trans (ef z)
 have Sk : ∀ {H3 Ux} {K : KV}, dc H B b H3 { b with cl := b.cl.set k (a, cE c p i l g), wa := Ux } -> c8 Ux N -> (∀ z, (k ∈ wl Ux z \/ z = (l.x : Int)) ↔ z = (l.x : Int) \/ z = (o.x : Int)) -> (∀ j z, j ≠ k -> (j ∈ wl Ux z ↔ j ∈ wl b.wa z)) -> (∀ H', Q .none H' -> K .none H') →
   WC (n + 57) 23 [.ref B, .int l.x, .int k] H3 K := fun {H3 Ux K} g3 i3 e3 e4 hK =>
  uY (n := n + 37) g3.at_ i3 hN Tx.1 Ui fun H4 Zo g4 i4 e5 => hK H4 (q H4 Zo (g3.trans g4) i4 (fun z => (e5 k z).trans (((or_congr kr ⟨fun x => x.2, fun x => ⟨rfl, x⟩⟩).trans (e3 z)).trans (Yh z).symm)) fun j z hj => (e5 j z).trans ((or_iff_left fun x => hj x.1).trans (e4 j z hj)))
 refine ji (w.sa.mm tm_1_19 (ab (w.ba.lit hk hi) ((lO (n := n + 11) w.sa t Tx).mpr (ab (uA hl) (ab (w.ba.lit hk hg) (ab (fG _) (ab (w.ba.lit hk hi) (ab (w.ba.lit hk hg) (ab sI (ab sJ (ab (h2.lit0 Ta e0) (ab (fG _) ?_))))))))))))
 have eg := eo.1 g.x
 have hK : ∀ H' : AH, Q .none H' -> (V.none = V.none /\ Q .none H') := fun u' z => ⟨rfl, z⟩
 by_cases c0 : (g.x : Int) = l0.x
 ·exact ab (sE c0) (h2.mm tm_0_8 (ab (h2.lit Ta ep) (ab (fG _) (Sk g2 wi (fun z => BJ (WD z) (eg (.inl c0))) (fun u' u' u' => kr) hK))))
 refine ab (uA c0) (ab (h2.lit1 Ta e1) (ab (fG _) ?_))
 by_cases c1 : (g.x : Int) = l1.x
 ·exact ab (sE c1) (h2.mm tm_0_8 (ab (h2.lit Ta ep) (ab (fG _) (Sk g2 wi (fun z => BJ (WD z) (eg (.inr c1))) (fun u' u' u' => kr) hK))))
 have Wk := (WD g.x).mpr (.inl rfl)
 obtain ⟨aw, lw, hw, Ub⟩ := LH Wk
 have hkw : k ∈ lw := Ub ▸ Wk
 have YF : ag _ aw = some (.list (lw.map az)) := h2.waL _ (mr hw)
 have h3 := vC (l' := lw.erase k) h2 hw
 obtain ⟨i3, e3⟩ := wi.erase hw k
 have no : ¬ (g.x : Int) = o.x := fun e => (eo.2 _ e).elim c0 c1
 refine ab (uA c1) (ab h2.a11 (ab (h2.subw hw) (eO YF (fh YF (aK (OK hkw) (h3.mm tm_0_8 (ab (h3.lit Ta ep) (ab (fG _) (Sk ⟨h3, g2.fr.set (.inl (zP hw)), fun z hz => g2.sub z (uP (B := B) (b := { b with cl := b.cl.set k (a, cE c p i l g) }) (q := (aw, lw.erase k)) hw rfl z hz)⟩ i3 (fun z => (or_congr (e3 k z) kr).trans (OM (WD z) no ⟨fun x => x.2, fun x => ⟨rfl, x⟩⟩)) (fun j z hj => (e3 j z).trans (and_iff_left fun x => hj x.1)) hK)))))))))
theorem FV (w : W2 H S y st B b) (t : bf st) {k a : Nat} {c : List aj} (hk : b.cl[k]? = some (a, c)) (h2 : 2 <= c.length) (h4 : c.length <= 4) (ok : ∀ l ∈ c, l.ok) (wi : c8 b.wa N) (hN : N <= 8) (Ui : k < N)
  (wk : ∀ z, k ∈ wl b.wa z ↔ z ∈ fr c) {p : Nat} (hp : p < 2)
  (q : ∀ H' Sn, dc H B b H' { b with cl := b.cl.set k (a, ia st c p), wa := Sn } -> c8 Sn N -> (∀ z, k ∈ wl Sn z ↔ z ∈ fr (ia st c p)) -> (∀ j z, j ≠ k -> (j ∈ wl Sn z ↔ j ∈ wl b.wa z)) -> Q .none H') :
  WC (n + 64) 25 [.ref B, .ref S, .int k, .int p] H Q := by
 have ha := w.ba.cla hk
 have SF : p < c.length := cH hp h2
 have hg : c[p]? = some c[p] := bR SF
 generalize c[p] = g at hg
 have key : ∀ (is : List Nat) (x u : Option V), (∀ i ∈ is, 2 <= i /\ i < c.length) -> (∀ H' Sn, dc H B b H' { b with cl := b.cl.set k (a, hE st c p is), wa := Sn } -> c8 Sn N -> (∀ z, k ∈ wl Sn z ↔ z ∈ fr (hE st c p is)) -> (∀ j z, j ≠ k -> (j ∈ wl Sn z ↔ j ∈ wl b.wa z)) -> Q .none H') →
   eM (PT (n + 62)).e (bY (PT (n + 62)).x vq) (.name 5) none (is.map az) [some (.ref B), some (.ref S), some (.int k), some (.int p), some (.ref a), x, u] H (onFl (fun u' H' => cO H Q .none H') fun v u' H' => cO H Q v H') := by
  intro is
  induction is with
  | nil =>
   refine fun x u u' q => And.intro rfl (cx (q H b.wa ?_ wi wk fun u' u' u' => kr))
   show dc H B b H { b with cl := b.cl.set k (a, c) }
   rw [rK hk]; exact dc.refl w.ba
  | cons i is ih =>
   intro x u hi q
   obtain ⟨hi1, TZ⟩ := hi i aL
   have hl : c[i]? = some c[i] := bR TZ
   generalize c[i] = l at hl
   rw [Ar, hl, hg] at q
   by_cases cl : sd st l = -1
   ·rw [show (match some l, some g with | some l, some g => if sd st l = -1 then hE st c p is else cE c p i l g | _, _ => c) = hE st c p is from if_pos cl] at q
    exact And.intro rfl (w.sa.mm tm_1_19 (ab (w.ba.lit hk hl) ((lO (n := n + 13) w.sa t (ok l (aT hl))).mpr (ab (sE cl) (ih _ _ (fun j hj => hi j (aQ _ hj)) q)))))
   ·rw [show (match some l, some g with | some l, some g => if sd st l = -1 then hE st c p is else cE c p i l g | _, _ => c) = cE c p i l g from if_neg cl] at q
    refine And.intro rfl (jj (n := n + 62) (Nz (I7 (n := n + 2) w t hk ok wi hN Ui wk hp hi1 hl hg cl (Q := fun v H' => cO H Q v H') fun H' Sn g' i' e1 e2 => nB w.ba g' fun Tc Up => q Tc Sn Up i' e1 e2) ?_))
    intro v loc H' r
    cases v with
    | next => exact r.elim
    | ret v => exact r.1.symm ▸ r.2
 have er : (bQ ((((c.map au).length : Nat) : Int) - 2).toNat).map (fun (j : Nat) => V.int (2 + (j : Int))) = (eV 2 (c.length - 2)).map az := by
  rw [aM, List.range'_eq_map_range, nv, show ((c.length : Nat) : Int) - 2 = ((c.length - 2 : Nat) : Int) from (Rk h2).symm]; rfl
 have kk := key (eV 2 (c.length - 2)) none none (fun i hi => have m := o0.mp hi; ⟨m.1, uf m.2 (Nat.add_sub_cancel' h2)⟩) q
 rw [<-er] at kk
 exact bD (f := 25) rfl rfl (ab w.ba.a8 (ab (w.ba.sub8 hk) (aK (eZ ha) (And.intro ⟨by rw [aM]; exact n3 h4 rfl, by decide⟩ kk))))
end
end
section
def fl (D : List M) (l : aj) : Prop := D.getD l.x 0 &&& l.m = 0
def tr (D : List M) (l : aj) : Prop := D.getD l.x 0 &&& l.m = D.getD l.x 0
noncomputable def Wt (D : List M) : List aj -> Prop
 | a :: b :: r => (fl D a -> (∀ l ∈ r, fl D l) /\ tr D b) /\ (fl D b -> (∀ l ∈ r, fl D l) /\ tr D a)
 | _ => True
def sub (D D' : List M) : Prop := ∀ x, D'.getD x 0 &&& D.getD x 0 = D'.getD x 0
theorem HP : ∀ a b c : M, b &&& a = b -> a &&& c = 0 -> b &&& c = 0 := by decide +kernel
theorem NN : ∀ a b c : M, b &&& a = b -> a &&& c = a -> b &&& c = b := by decide +kernel
theorem qf {D D' : List M} (h : sub D D') {l : aj} (q : fl D l) : fl D' l := HP _ _ _ (h l.x) q
theorem B4 {D D' : List M} (h : sub D D') {l : aj} (q : tr D l) : tr D' l := NN _ _ _ (h l.x) q
theorem AZ : ∀ a : M, a &&& a = a := by decide +kernel
theorem Jb (D : List M) : sub D D := fun x => AZ _
theorem DY : ∀ a b c : M, b &&& a = b -> c &&& b = c -> c &&& a = c := by decide +kernel
theorem Ek {A B C : List M} (h : sub A B) (k : sub B C) : sub A C := fun x => DY _ _ _ (h x) (k x)
theorem and_and_left : ∀ a b : M, a &&& b &&& a = a &&& b := by decide +kernel
set_option tactic.hygienic true in
theorem wf {D : List M} {x : Nat} {m : M} (h : x < D.length) : sub D (D.set x (D.getD x 0 &&& m)) := by
 intro z; rw [iV h]; split
 ·rename_i e; subst e; exact and_and_left _ _
 ·exact AZ _
theorem Pl {D : List M} {a b l : aj} {r r' : List aj} (h : Wt D (a :: b :: r)) (hl : l ∈ r) (hn : ¬ fl D l) : Wt D (l :: b :: r') := by
 refine ⟨fun q => absurd q hn, fun q => absurd ((h.2 q).1 l hl) hn⟩
theorem HW {D : List M} {a b l : aj} {r r' : List aj} (h : Wt D (a :: b :: r)) (hl : l ∈ r) (hn : ¬ fl D l) : Wt D (a :: l :: r') := by
 refine ⟨fun q => absurd ((h.1 q).1 l hl) hn, fun q => absurd q hn⟩
theorem zy {D : List M} {a b : aj} {r : List aj} {x : Nat} {m : M} (hx : x < D.length) (h : Wt D (a :: b :: r)) (ha : a.x ≠ x) (hb : b.x ≠ x) : Wt (D.set x (D.getD x 0 &&& m)) (a :: b :: r) := by
 have s := wf (m := m) hx
 have e : ∀ l : aj, l.x ≠ x -> (D.set x (D.getD x 0 &&& m)).getD l.x 0 = D.getD l.x 0 := fun l hl => by rw [iV hx, if_neg fun q => hl q.symm]
 refine ⟨fun q => ?_, fun q => ?_⟩
 ·unfold fl at q; rw [e a ha] at q
  exact ⟨fun l hl => qf s ((h.1 q).1 l hl), B4 s (h.1 q).2⟩
 ·unfold fl at q; rw [e b hb] at q
  exact ⟨fun l hl => qf s ((h.2 q).1 l hl), B4 s (h.2 q).2⟩
theorem BC : ∀ {r : List aj} {j : Nat} {l g : aj}, r[j]? = some l -> (l :: r.set j g).Perm (g :: r) := by
 intro r
 induction r with
 | nil =>
  intro j l g h
  simp at h
 | cons a r iH =>
  intro Se
  cases Se with
  | zero =>
   intro l g h
   simp at h; subst h; exact .swap _ _ _
  | succ j =>
   intro l g h
   simp at h
   have := iH (g := g) h
   rw [uh]
   exact (List.Perm.swap _ _ _).trans ((this.cons a).trans (.swap _ _ _))
section
variable {st : St}
theorem Az {c : List aj} {p : Nat} {g : aj} (hg : c[p]? = some g) : ∀ (is : List Nat), (∀ i ∈ is, i < c.length) →
  (hE st c p is = c /\ ∀ i ∈ is, ∀ l, c[i]? = some l -> sd st l = -1) \/ ∃ i l, i ∈ is /\ c[i]? = some l /\ ¬ sd st l = -1 /\ hE st c p is = cE c p i l g := by
 intro is
 induction is with
 | nil =>
  intro _
  exact .inl ⟨rfl, by simp⟩
 | cons i is iH =>
  intro h
  obtain ⟨l, hl⟩ : ∃ l, c[i]? = some l := ⟨c[i]'(h i aL), bR _⟩
  simp only [Gw, Ar, hl, hg]
  by_cases q : sd st l = -1
  ·rw [if_pos q]
   rcases iH fun j hj => h j (aQ _ hj) with ⟨e1, e2⟩ | ⟨j, l', h1, h2, h3, h4⟩
   ·refine .inl ⟨e1, fun j hj l' Ti => ?_⟩
    rcases aP.mp hj with rfl | hj
    ·rw [hl] at Ti; cases Ti; exact q
    ·exact e2 j hj l' Ti
   ·exact .inr ⟨j, l', aQ _ h1, h2, h3, h4⟩
  ·rw [if_neg q]; exact .inr ⟨i, l, aL, hl, q, rfl⟩
theorem J5 (a b : aj) (r : List aj) : (ia st (a :: b :: r) 0 = a :: b :: r /\ ∀ l ∈ r, sd st l = -1) \/ ∃ l r', ¬ sd st l = -1 /\ l ∈ r /\ (l :: r').Perm (a :: r) /\ ia st (a :: b :: r) 0 = l :: b :: r' := by
 rcases Az (st := st) (c := a :: b :: r) (p := 0) (g := a) rfl (eV 2 r.length) (fun i hi => by have := o0.mp hi; simp; trivial) with ⟨e1, e2⟩ | ⟨i, l, h1, h2, h3, h4⟩
 ·refine .inl ⟨e1, fun l hl => ?_⟩
  obtain ⟨j, hj⟩ := ju.mp hl
  have := (bG.mp hj).1
  exact e2 (j + 2) (o0.mpr ⟨by trivial, by trivial⟩) l hj
 ·have := o0.mp h1
  obtain ⟨j, rfl⟩ : ∃ j, i = j + 2 := ⟨i - 2, by trivial⟩
  exact .inr ⟨l, r.set j a, h3, aT h2, BC h2, h4⟩
theorem Lb (a b : aj) (r : List aj) : (ia st (a :: b :: r) 1 = a :: b :: r /\ ∀ l ∈ r, sd st l = -1) \/ ∃ l r', ¬ sd st l = -1 /\ l ∈ r /\ (l :: r').Perm (b :: r) /\ ia st (a :: b :: r) 1 = a :: l :: r' := by
 rcases Az (st := st) (c := a :: b :: r) (p := 1) (g := b) rfl (eV 2 r.length) (fun i hi => by have := o0.mp hi; simp; trivial) with ⟨e1, e2⟩ | ⟨i, l, h1, h2, h3, h4⟩
 ·refine .inl ⟨e1, fun l hl => ?_⟩
  obtain ⟨j, hj⟩ := ju.mp hl
  have := (bG.mp hj).1
  exact e2 (j + 2) (o0.mpr ⟨by trivial, by trivial⟩) l hj
 ·have := o0.mp h1
  obtain ⟨j, rfl⟩ : ∃ j, i = j + 2 := ⟨i - 2, by trivial⟩
  exact .inr ⟨l, r.set j b, h3, aT h2, BC h2, h4⟩
theorem k8 (t : bf st) {l : aj} (h : l.ok) : sd st l = -1 ↔ fl st.doms l := nZ (t.ne h.1)
theorem qm {l : aj} : sd st l = 1 ↔ tr st.doms l := rW
theorem uL (l : aj) : sd st l = 1 \/ sd st l = 0 \/ sd st l = -1 := by
 unfold sd fo; split
 ·exact .inl rfl
 ·split
  ·exact .inr (.inr rfl)
  ·exact .inr (.inl rfl)
noncomputable def AN (st : St) : List aj -> List aj
 | a :: b :: r => if sd st a = -1 then ia st (a :: b :: r) 0 else a :: b :: r
 | c => c
noncomputable def BU (st : St) : List aj -> List aj
 | a :: b :: r => if sd st b = -1 then ia st (a :: b :: r) 1 else a :: b :: r
 | c => c
structure gJ (st : St) (c c' : List aj) : Prop where
 pm : c'.Perm c
 sn : ∀ D, sub D st.doms -> Wt D c -> Wt D c'
theorem gJ.refl (c : List aj) : gJ st c c := ⟨.refl _, fun u' u' h => h⟩
theorem gJ.trans {a b c : List aj} (h : gJ st a b) (k : gJ st b c) : gJ st a c := ⟨k.pm.trans h.pm, fun D hD q => k.sn D hD (h.sn D hD q)⟩
theorem NT (t : bf st) {a b : aj} {r : List aj} (ok : ∀ l ∈ a :: b :: r, l.ok) : ∃ a' r', AN st (a :: b :: r) = a' :: b :: r' /\ gJ st (a :: b :: r) (a' :: b :: r') /\ (sd st a' = -1 -> ∀ l ∈ r', sd st l = -1) := by
 simp only [AN]
 by_cases c : sd st a = -1
 ·rw [if_pos c]
  rcases J5 (st := st) a b r with ⟨e1, e2⟩ | ⟨l, r', h1, h2, h3, h4⟩
  ·exact ⟨a, r, e1, gJ.refl _, fun u' => e2⟩
  ·refine ⟨l, r', h4, ⟨?_, fun D hD h => Pl h h2 fun q => h1 ?_⟩, fun q => absurd q h1⟩
   ·exact (List.Perm.swap _ _ _).trans ((h3.cons b).trans (.swap _ _ _))
   ·exact (k8 t (ok l (by simp [h2]))).mpr (qf hD q)
 ·rw [if_neg c]; exact ⟨a, r, rfl, gJ.refl _, fun q => absurd q c⟩
theorem FI (t : bf st) {a b : aj} {r : List aj} (ok : ∀ l ∈ a :: b :: r, l.ok) (h0 : sd st a = -1 -> ∀ l ∈ r, sd st l = -1) : ∃ b' r', BU st (a :: b :: r) = a :: b' :: r' /\ gJ st (a :: b :: r) (a :: b' :: r') /\ (sd st a = -1 \/ sd st b' = -1 -> ∀ l ∈ r', sd st l = -1) := by
 simp only [BU]
 by_cases c : sd st b = -1
 ·rw [if_pos c]
  rcases Lb (st := st) a b r with ⟨e1, e2⟩ | ⟨l, r', h1, h2, h3, h4⟩
  ·exact ⟨b, r, e1, gJ.refl _, fun u' => e2⟩
  ·refine ⟨l, r', h4, ⟨h3.cons a, fun D hD h => HW h h2 fun q => h1 ?_⟩, ?_⟩
   ·exact (k8 t (ok l (by simp [h2]))).mpr (qf hD q)
   ·rintro (q | q)
    ·exact absurd (h0 q l h2) h1
    ·exact absurd q h1
 ·rw [if_neg c]; exact ⟨b, r, rfl, gJ.refl _, fun q => q.elim h0 fun q => absurd q c⟩
end
end
section
theorem AV : ∀ (l : List (Int × V)) (x : Int) (v : V), (dictPut l x v).map (·.1) = if x ∈ l.map (·.1) then l.map (·.1) else l.map (·.1) ++ [x] := by
 intro l
 induction l with
 | nil =>
  intro x v
  simp [dictPut]
 | cons Se r iH =>
  obtain ⟨k, q⟩ := Se
  intro x v
  simp only [dictPut]
  by_cases e : k = x
  ·subst e; simp
  ·rw [if_neg e]
   simp only [cA, iH x v, aP, fun q : x = k => e q.symm, false_or]
   have : ¬ x = k := fun q => e q.symm
   simp only [this, false_or]
   split <;> simp
set_option tactic.hygienic true in
theorem bf.enter {st : St} (t : bf st) {l : aj} (h : l.ok) (hs : sd st l = 0) (why sp : V) : bf (dL st l why sp) := by
 have n0 : ¬ st.dom l.x &&& l.m = 0 := fun q => by have := (nZ (t.ne h.1)).mpr q; unfold sd at hs; trivial
 have n1 : ¬ st.dom l.x &&& l.m = st.dom l.x := fun q => by have := rW.mpr q; unfold sd at hs; trivial
 refine ⟨t.fi, ?_, ?_, ?_, ?_, ?_, t.ms⟩
 ·show eF D0 (st.trail ++ _)
  rw [sP]
  refine ⟨t.tr, h.1, ?_, h, rfl, n0, n1, trivial⟩
  rw [<-t.dm]; rfl
 ·show st.doms.set l.x _ = run D0 (st.trail ++ _)
  rw [ur, <-t.dm]; rfl
 ·show ((dictPut st.news l.x (.bool true)).map (·.1)).Nodup
  rw [AV]
  split
  ·exact t.nk
  ·rename_i hn
   rw [bX]
   exact ⟨t.nk, by simp, fun a ha c hc e => by simp only [aN] at hc; subst hc; subst e; exact hn ha⟩
 ·intro p hp
  have : p.1 ∈ (dictPut st.news l.x (.bool true)).map (·.1) := bg.mpr ⟨p, hp, rfl⟩
  rw [AV] at this
  have h3 : ∀ z ∈ st.news.map (·.1), 0 <= z /\ z < 3 := fun z hz => by obtain ⟨u, hu, rfl⟩ := bg.mp hz; exact t.nb u hu
  split at this
  ·exact h3 _ this
  ·rcases aW.mp this with q | q
   ·exact h3 _ q
   ·simp only [aN] at q; have := h.1; trivial
 ·intro k hk
  have := t.ma k hk
  show k <= (st.trail ++ _).length
  rw [dg]; trivial
theorem Mt {st : St} (t : bf st) {l : aj} (h : l.ok) (why sp : V) : sub st.doms (dL st l why sp).doms := wf (by rw [t.len]; exact h.1)
section
variable {n : Nat} {H : AH} {S B : Nat} {y : aO} {st : St} {b : Bk} {Q : V -> AH -> Prop} {N : Nat}
theorem Bu (w : W2 H S y st B b) (t : bf st) {k a : Nat} {c : List aj} (hk : b.cl[k]? = some (a, c)) (h4 : c.length <= 4) (ok : ∀ l ∈ c, l.ok) {p : Nat} {l : aj} (hp : c[p]? = some l) (hs : sd st l = 0)
  (q : ∀ H' why, cI H S y H' (dL st l why (.int (-1))) -> Q (.bool true) H') : WC (n + 72) 26 [.ref B, .ref S, .int k, .int p] H Q := by
 have ha := w.ba.cla hk
 have h := ok l (aT hp)
 have n0 : ¬ st.dom l.x &&& l.m = 0 := fun q => absurd (hs.symm.trans ((nZ (t.ne h.1)).mpr q)) (by decide)
 have n1 : ¬ st.dom l.x &&& l.m = st.dom l.x := fun q => absurd (hs.symm.trans (rW.mpr q)) (by decide)
 have lc : (c.map au).length < 4096 := by rw [aM]; exact n3 h4 rfl
 refine bD (f := 26) rfl rfl (ab w.ba.a8 (ab (w.ba.sub8 hk) (w.sa.mm tm_1_21 (ab (w.ba.lit hk hp) (aK (eZ ha) (And.intro lc (And.intro ⟨rfl, ?_⟩ (iB (n := n + 67) (gI az (fun (j : Nat) => !decide ((j : Int) = (p : Int))) (fun j => au (neg (c.getD j l))) (fun q => ∃ x z, q = [some (.ref B), some (.ref S), some (.int k), some (.int p), some (.ref a), x, z]) rfl (bQ (c.map au).length) rfl ⟨_, _, rfl⟩ ?_ ?_)))))))))
 ·show ((bQ (c.map au).length).map az).length < 4096
  rw [aM, qR]; exact lc
 ·rintro j hj loc ⟨x, z, rfl⟩
  have hj : j < c.length := uf (nh.mp hj) (aM _)
  have e1 : cf H (.ref a) (.int (j : Int)) = some (au (c.getD j l)) := w.ba.lit hk (by rw [ug, bR hj]; rfl)
  exact ⟨_, rfl, ⟨_, _, rfl⟩, iI (ab (congrArg (kn (!·)) (jO _ _)) (kI (P := fun x => x = (!decide ((j : Int) = (p : Int))) /\ H = H) ⟨rfl, rfl⟩)), fun u' => hV (ab e1 ((p0 (n := n + 54)).mpr ⟨rfl, rfl⟩))⟩
 ·refine aK rfl (D1 (n := n + 3) w.sa h (by rw [t.len]; exact h.1) ?_ (n3 t.tl rfl) (n3 t.nl rfl) (fun c => absurd c n0) (fun u' c => absurd c n1) fun u' u' H' g => hZ (Q := Q) w.sa g fun Tc Up => q Tc _ Up)
  rw [aM]
  exact cL (Dy _ _) (by rw [qR, aM]; exact n3 h4 rfl)
end
end
section
def gS (st : St) (c : List aj) (r : Bool) (st' : St) (c' : List aj) : Prop :=
 gJ st c c' /\ ((r = true /\ st' = st /\ Wt st.doms c' /\ ∃ l0 l1 o, c' = l0 :: l1 :: o /\ (sd st l0 = 1 \/ sd st l1 = 1 \/ (sd st l0 = 0 /\ sd st l1 = 0))) ∨
  (r = true /\ ∃ l o why, c'.Perm (l :: o) /\ l.ok /\ sd st l = 0 /\ (∀ x ∈ o, sd st x = -1) /\ st' = dL st l why (.int (-1)) /\ Wt st'.doms c') ∨
  (r = false /\ (∀ x ∈ c', sd st x = -1) /\ ∃ cl : List V, cl.length = c'.length /\ st' = oy st cl))
theorem zg : ∀ a b : M, a &&& b &&& b = a &&& b := by decide +kernel
theorem yV {st : St} (t : bf st) {l o : aj} {r : List aj} (hl : l.ok) (ho : o.ok) (hr : ∀ x ∈ r, x.ok) (h0 : sd st l = 0) (h1 : sd st o = -1) (h2 : ∀ x ∈ r, sd st x = -1) (why sp : V) :
  Wt (dL st l why sp).doms (l :: o :: r) /\ Wt (dL st l why sp).doms (o :: l :: r) := by
 have s := Mt t hl why sp
 have e : (dL st l why sp).doms.getD l.x 0 = st.dom l.x &&& l.m := by
  show (st.doms.set l.x _).getD l.x 0 = _
  rw [iV (by rw [t.len]; exact hl.1), if_pos rfl]
 have n0 : ¬ st.dom l.x &&& l.m = 0 := fun q => by have := (nZ (t.ne hl.1)).mpr q; unfold sd at h0; trivial
 have a1 : tr (dL st l why sp).doms l := by unfold tr; rw [e]; exact zg _ _
 have a2 : ¬ fl (dL st l why sp).doms l := by unfold fl; rw [e, zg]; exact n0
 have a3 : ∀ x ∈ r, fl (dL st l why sp).doms x := fun x hx => qf s ((k8 t (hr x hx)).mp (h2 x hx))
 exact ⟨⟨fun q => absurd q a2, fun u' => ⟨a3, a1⟩⟩, ⟨fun u' => ⟨a3, a1⟩, fun q => absurd q a2⟩⟩
section
variable {n : Nat} {H : AH} {S B : Nat} {y : aO} {st : St} {b : Bk} {Q : V -> AH -> Prop} {N : Nat}
theorem yj (w : W2 H S y st B b) (t : bf st) {k a : Nat} {c : List aj} (hk : b.cl[k]? = some (a, c)) (h2 : 2 <= c.length) (h4 : c.length <= 4) (ok : ∀ l ∈ c, l.ok) (wi : c8 b.wa N) (hN : N <= 8) (Ui : k < N)
  (wk : ∀ z, k ∈ wl b.wa z ↔ z ∈ fr c) {p : Nat} (hp : p < 2) {l : aj} (hl : c[p]? = some l) {u v : Option V} {Qx : Fl -> Loc -> AH -> Prop}
  (q : ∀ H' Sn, dc H B b H' { b with cl := b.cl.set k (a, if sd st l = -1 then ia st c p else c), wa := Sn } -> c8 Sn N -> (∀ z, k ∈ wl Sn z ↔ z ∈ fr (if sd st l = -1 then ia st c p else c)) -> (∀ j z, j ≠ k -> (j ∈ wl Sn z ↔ j ∈ wl b.wa z)) -> Qx .next [some (.ref B), some (.ref S), some (.int k), some (.ref a), some (.int p), u, v] H') :
  bN (n + 69) zW [some (.ref B), some (.ref S), some (.int k), some (.ref a), some (.int p), u, v] H Qx := by
 refine ji (w.sa.mm tm_1_19 (ab (w.ba.lit hk hl) ((lO (n := n + 20) w.sa t (ok l (aT hl))).mpr ?_)))
 by_cases e : sd st l = -1
 ·refine ab (dP e) (w.ba.mm tm_0_10 ?_)
  rw [if_pos e] at q
  exact FV (n := n + 2) w t hk h2 h4 ok wi hN Ui wk hp q
 ·refine ab (kO e) ?_
  rw [if_neg e] at q
  exact q H b.wa (by rw [rK hk]; exact dc.refl w.ba) wi wk fun u' u' u' => kr
theorem wX (w : W2 H S y st B b) (t : bf st) {k a : Nat} {c : List aj} (hk : b.cl[k]? = some (a, c)) (h2 : 2 <= c.length) (h4 : c.length <= 4) (ok : ∀ l ∈ c, l.ok) (wi : c8 b.wa N) (hN : N <= 8) (Ui : k < N)
  (wk : ∀ z, k ∈ wl b.wa z ↔ z ∈ fr c)
  (q : ∀ r H' y' st' c' Sn, gS st c r st' c' -> bP H S y B b H' y' st' { b with cl := b.cl.set k (a, c'), wa := Sn } -> c8 Sn N -> (∀ z, k ∈ wl Sn z ↔ z ∈ fr c') -> (∀ j z, j ≠ k -> (j ∈ wl Sn z ↔ j ∈ wl b.wa z)) -> Q (.bool r) H') :
  WC (n + 80) 27 [.ref B, .ref S, .int k] H Q := by
 refine bD (f := 27) rfl rfl ?_
 rcases c with _ | ⟨a0, _ | ⟨b0, r0⟩⟩
 ·exact absurd h2 (by decide : ¬ 2 <= 0)
 ·exact absurd h2 (by decide : ¬ 2 <= 1)
 have SZ : k < b.cl.length := (bG.mp hk).1
 obtain ⟨a1, r1, v0, ro, k0⟩ := NT t ok
 refine ab w.ba.a8 (ab (w.ba.sub8 hk) (And.intro rfl (jj (yj (n := n + 9) (p := 0) w t hk h2 h4 ok wi hN Ui wk (by trivial) rfl fun H1 wa1 g1 i1 e1 e2 => ?_))))
 rw [show (if sd st a0 = -1 then ia st (a0 :: b0 :: r0) 0 else a0 :: b0 :: r0) = a1 :: b0 :: r1 from v0] at g1 e1
 have w1 := (w.book g1).w
 have Uv : (b.cl.set k (a, a1 :: b0 :: r1))[k]? = some (a, a1 :: b0 :: r1) := kf SZ
 have l1 := ro.pm.length_eq
 have Yz : ∀ l ∈ a1 :: b0 :: r1, l.ok := fun l hl => ok l (ro.pm.mem_iff.mp hl)
 obtain ⟨b1, r2, v1, Yw, kk⟩ := FI t Yz k0
 refine And.intro rfl (jj (yj (n := n + 9) (p := 1) w1 t Uv (by trivial) (by trivial) Yz i1 hN Ui e1 (by trivial) rfl fun H2 WF g2 i2 e3 e4 => ?_))
 rw [show (if sd st b0 = -1 then ia st (a1 :: b0 :: r1) 1 else a1 :: b0 :: r1) = a1 :: b1 :: r2 from v1] at g2 e3
 simp only [nA] at g2
 have VL := w.book (g1.trans g2)
 have w2 := VL.w
 have Ta : (b.cl.set k (a, a1 :: b1 :: r2))[k]? = some (a, a1 :: b1 :: r2) := kf SZ
 have l2 := Yw.pm.length_eq
 have VN := ro.trans Yw
 have VU : ∀ l ∈ a1 :: b1 :: r2, l.ok := fun l hl => ok l (VN.pm.mem_iff.mp hl)
 have oa := VU a1 aL
 have ob := VU b1 (aQ _ aL)
 refine And.intro rfl (w2.sa.mm tm_1_19 (ab (w2.ba.lit0 Ta rfl) ((lO (n := n + 31) w2.sa t oa).mpr (w2.sa.mm tm_1_19 (ab (w2.ba.lit1 Ta rfl) ((lO (n := n + 31) w2.sa t ob).mpr ?_))))))
 have base : ∀ r H3 y3 SG, gS st (a0 :: b0 :: r0) r SG (a1 :: b1 :: r2) -> bP H S y B b H3 y3 SG { b with cl := b.cl.set k (a, a1 :: b1 :: r2), wa := WF } -> cO H Q (.bool r) H3 :=
  fun r H3 y3 SG vo g => nQ w g fun H4 g4 => q r H4 _ _ _ _ vo g4 i2 e3 fun j z hj => (e4 j z hj).trans (e2 j z hj)
 have or2 : ∀ x ∈ r2, x.ok := fun x hx => VU x (aQ _ (aQ _ hx))
 have Vw : (sd st a1 = -1 -> sd st b1 = 1) -> (sd st b1 = -1 -> sd st a1 = 1) -> (sd st a1 = 1 \/ sd st b1 = 1 \/ (sd st a1 = 0 /\ sd st b1 = 0)) -> cO H Q (.bool true) H2 := fun p1 p2 p3 =>
  base true H2 y st ⟨VN, .inl ⟨rfl, rfl, ⟨fun q => have q' := (k8 t oa).mpr q; ⟨fun x hx => (k8 t (or2 x hx)).mp (kk (.inl q') x hx), qm.mp (p1 q')⟩, fun q => have q' := (k8 t ob).mpr q; ⟨fun x hx => (k8 t (or2 x hx)).mp (kk (.inr q') x hx), qm.mp (p2 q')⟩⟩, a1, b1, r2, rfl, p3⟩⟩ VL
 have no : ∀ {x y z : Int} {p : Prop}, x = y -> decide (y = z) = false -> x = z -> p := fun h e q => absurd (h.symm.trans q) (of_decide_eq_false e)
 rcases uL (st := st) a1 with ha1 | ha1 | ha1
 ·exact ab (dP ha1) (Vw (no ha1 rfl) (fun u' => ha1) (.inl ha1))
 ·refine ab (hH ha1 rfl) ?_
  rcases uL (st := st) b1 with hb1 | hb1 | hb1
  ·exact ab (dP hb1) (Vw (no ha1 rfl) (no hb1 rfl) (.inr (.inl hb1)))
  ·exact ab (hH hb1 rfl) (ab (dP ha1) (ab (dP hb1) (Vw (no ha1 rfl) (no hb1 rfl) (.inr (.inr ⟨ha1, hb1⟩)))))
  ·obtain ⟨x1, x2⟩ := yV t oa ob or2 ha1 hb1 (kk (.inr hb1)) .none (.int (-1))
   refine ab (hH hb1 rfl) (ab (dP ha1) (ab (hH hb1 rfl) (ab (hH ha1 rfl) (w2.ba.mm tm_0_11 (ab (dP hb1) (Bu (n := n + 5) (p := 0) w2 t Ta (by trivial) VU rfl ha1 fun H3 why g => ?_))))))
   obtain ⟨y3, g3⟩ := w2.store g
   exact base true H3 y3 _ ⟨VN, .inr (.inl ⟨rfl, a1, b1 :: r2, why, .refl _, oa, ha1, fun x hx => (aP.mp hx).elim (fun e => e ▸ hb1) (kk (.inr hb1) x), rfl, x1⟩)⟩ (VL.trans g3)
 ·refine ab (hH ha1 rfl) ?_
  rcases uL (st := st) b1 with hb1 | hb1 | hb1
  ·exact ab (dP hb1) (Vw (fun u' => hb1) (no hb1 rfl) (.inr (.inl hb1)))
  ·obtain ⟨x1, x2⟩ := yV t ob oa or2 hb1 ha1 (kk (.inl ha1)) .none (.int (-1))
   refine ab (hH hb1 rfl) (ab (hH ha1 rfl) (ab (dP ha1) (ab (hH hb1 rfl) (w2.ba.mm tm_0_11 (ab (hH hb1 rfl) (Bu (n := n + 5) (p := 1) w2 t Ta (by trivial) VU rfl hb1 fun H3 why g => ?_))))))
   obtain ⟨y3, g3⟩ := w2.store g
   exact base true H3 y3 _ ⟨VN, .inr (.inl ⟨rfl, b1, a1 :: r2, why, .swap _ _ _, ob, hb1, fun x hx => (aP.mp hx).elim (fun e => e ▸ ha1) (kk (.inl ha1) x), rfl, x2⟩)⟩ (VL.trans g3)
  ·have Y3 := w2.ba.cla Ta
   have all : ∀ x ∈ a1 :: b1 :: r2, sd st x = -1 := fun x hx => (aP.mp hx).elim (fun e => e ▸ ha1) fun hx => (aP.mp hx).elim (fun e => e ▸ hb1) (kk (.inl ha1) x)
   refine ab (hH hb1 rfl) (ab (hH ha1 rfl) (ab (dP ha1) (ab (dP hb1) (w2.sa.mm tm_1_23 (fh Y3 (And.intro ⟨rfl, ?_⟩ (iB (n := n + 74) (gI au (fun u' => true) (fun l => au (neg l)) (fun q => ∃ x z, q = [some (.ref B), some (.ref S), some (.int k), some (.ref a), some (.int 1), some (.int (sd st a1)), some (.int (sd st b1)), x, z]) ?_ (a1 :: b1 :: r2) rfl ?_ ?_ ?_))))))))
   ·exact cL (cY (j3 ((aM _).trans (l2.trans l1))) h4) (by decide)
   ·simp [bU, Y3]
   ·exact ⟨_, _, rfl⟩
   ·rintro l hl loc ⟨x, z, rfl⟩
    exact ⟨_, rfl, ⟨_, _, rfl⟩, iI ⟨rfl, rfl⟩, fun u' => hV (p0.mpr ⟨rfl, rfl⟩)⟩
   ·refine aK rfl (AJ (n := n + 66) w2.sa (l := ((a1 :: b1 :: r2).filter fun u' => true).map fun l => au (neg l)) (fun u' u' => rfl) fun H3 g => ?_)
    obtain ⟨y3, g3⟩ := w2.store g
    exact base false H3 y3 _ ⟨VN, .inr (.inr ⟨rfl, all, _, by rw [aM, xR.mpr fun u' u' => rfl], rfl⟩)⟩ (VL.trans g3)
end
end
section
structure gz (cs : List (List aj)) : Prop where
 n8 : cs.length <= 8
 two : ∀ c ∈ cs, 2 <= c.length
 four : ∀ c ∈ cs, c.length <= 4
 ok : ∀ c ∈ cs, ∀ l ∈ c, l.ok
structure gp (b : Bk) (cs : List (List aj)) (pl : Nat -> Prop) : Prop where
 len : b.cl.length = cs.length
 pm : ∀ (k a : Nat) (c : List aj), b.cl[k]? = some (a, c) -> ∃ c0, cs[k]? = some c0 /\ c.Perm c0
 wi : c8 b.wa cs.length
 wk : ∀ (k a : Nat) (c : List aj), b.cl[k]? = some (a, c) -> pl k -> ∀ z, k ∈ wl b.wa z ↔ z ∈ fr c
 nw : ∀ k : Nat, ¬ pl k -> ∀ z, k ∉ wl b.wa z
theorem gp.cls {b : Bk} {cs : List (List aj)} {pl : Nat -> Prop} (h : gp b cs pl) (o : gz cs) {k a : Nat} {c : List aj} (hk : b.cl[k]? = some (a, c)) : 2 <= c.length /\ c.length <= 4 /\ (∀ l ∈ c, l.ok) /\ k < cs.length := by
 obtain ⟨c0, h0, p⟩ := h.pm k a c hk
 have m := aT h0
 have l := p.length_eq
 have t := o.two c0 m; have f := o.four c0 m
 exact ⟨by trivial, by trivial, fun x hx => o.ok c0 m x (p.mem_iff.mp hx), (bG.mp h0).1⟩
theorem gp.upd {b : Bk} {cs : List (List aj)} {pl : Nat -> Prop} (h : gp b cs pl) {k a a' : Nat} {c c' : List aj} (hk : b.cl[k]? = some (a, c)) (p : c'.Perm c) {Sn : List (Int × (Nat × List Nat))} (wi : c8 Sn cs.length)
  (e1 : ∀ z, k ∈ wl Sn z ↔ z ∈ fr c') (e2 : ∀ j z, j ≠ k -> (j ∈ wl Sn z ↔ j ∈ wl b.wa z)) {pl' : Nat -> Prop} (hp : ∀ j, j ≠ k -> (pl' j ↔ pl j)) (TS : pl' k) : gp { b with cl := b.cl.set k (a', c'), wa := Sn } cs pl' := by
 have SZ := (bG.mp hk).1
 refine ⟨by simpa using h.len, fun j a1 c1 hj => ?_, wi, fun j a1 c1 hj pj z => ?_, fun j nj z hz => ?_⟩
 ·simp only [oZ] at hj
  by_cases e : k = j
  ·subst e
   rw [if_pos rfl, if_pos SZ] at hj; cases hj
   obtain ⟨c0, h0, q⟩ := h.pm k a c hk
   exact ⟨c0, h0, p.trans q⟩
  ·rw [if_neg e] at hj; exact h.pm j a1 c1 hj
 ·simp only [oZ] at hj
  by_cases e : k = j
  ·subst e
   rw [if_pos rfl, if_pos SZ] at hj; cases hj
   exact e1 z
  ·rw [if_neg e] at hj
   have e' : j ≠ k := fun q => e q.symm
   rw [e2 j z e']
   exact h.wk j a1 c1 hj ((hp j e').mp pj) z
 ·by_cases e : j = k
  ·subst e; exact nj TS
  ·exact h.nw j (fun q => nj ((hp j e).mpr q)) z ((e2 j z e).mp hz)
theorem gS.tok {st st' : St} (t : bf st) {c c' : List aj} {r : Bool} (v : gS st c r st' c') : bf st' := by
 obtain ⟨_, ⟨_, rfl, _⟩ | ⟨_, l, o, why, _, hl, h0, _, rfl, _⟩ | ⟨_, _, cl, _, rfl⟩⟩ := v
 ·exact t
 ·exact t.enter hl h0 _ _
 ·exact ⟨t.fi, t.tr, t.dm, t.nk, t.nb, t.ma, t.ms⟩
theorem gS.marks {st st' : St} {c c' : List aj} {r : Bool} (v : gS st c r st' c') : st'.marks = st.marks := by
 obtain ⟨_, ⟨_, rfl, _⟩ | ⟨_, l, o, why, _, hl, h0, _, rfl, _⟩ | ⟨_, _, cl, _, rfl⟩⟩ := v <;> rfl
theorem gS.failed {st st' : St} {c c' : List aj} (v : gS st c true st' c') : st'.failed = st.failed := by
 obtain ⟨_, ⟨_, rfl, _⟩ | ⟨_, l, o, why, _, hl, h0, _, rfl, _⟩ | ⟨q, _, cl, _, rfl⟩⟩ := v
 ·rfl
 ·rfl
 ·cases q
section
variable {n : Nat} {H : AH} {S B : Nat} {y : aO} {st : St} {b : Bk} {Q : V -> AH -> Prop}
set_option tactic.hygienic true in
theorem vv (h : aB H S y st) {H' : AH} {y' : aO} {st' : St} (h' : aB H' S y' st') {v : V} (q : ∀ H' y', aB H' S y' st' -> Q v H') : cO H Q v H' := by
 unfold cO
 split
 ·rename_i z
  simp only [eU, decide_eq_true_eq] at z
  have := h.same h' fun a ha => iK z.2 ha
  subst this
  exact q _ _ (h'.frame fun a ha => (iK z.2 (h.lt a ha)).symm)
 ·exact q _ _ h'
theorem bP.out {H' : AH} {y' : aO} {st' : St} {b' : Bk} (g : bP H S y B b H' y' st' b') {a : Nat} (ha : a < H.length) (h1 : a ∉ y.foot S) (h2 : a ∉ b.foot B) : ag H' a = ag H a /\ a < H'.length /\ a ∉ y'.foot S /\ a ∉ b'.foot B := by
 refine ⟨g.fr.2 a ha fun m => (aW.mp m).elim h1 h2, cH ha g.fr.1, fun m => ?_, fun m => ?_⟩
 ·rcases g.ys a m with q | q
  ·exact h1 q
  ·trivial
 ·rcases g.bs a m with q | q
  ·exact h2 q
  ·trivial
theorem B8 (w : W2 H S y st B b) : ∃ H1, iZ (H ++ [ar.list []]) (.ref B) 10 (.ref H.length) = some H1 ∧
  bP H S y B b H1 y st { b with fre := H.length, fresh := [] } ∧
  ag H1 b.fre = some (.list (b.fresh.map az)) ∧
  b.fre < H1.length /\ b.fre ∉ y.foot S /\ b.fre ∉ Bk.foot B { b with fre := H.length, fresh := [] } := by
 have hh := w.ba.app [ar.list []]
 have h1 := NF w.ba
 have ne := w.ba.ne
 have nb := ne.base
 simp only [Bk.base, dh, aP, gb, or_false, not_or] at nb
 obtain ⟨⟨a1, a2, a3, a4, a5⟩, ⟨b1, b2, b3, b4⟩, ⟨c1, c2, c3⟩, ⟨d1, d2⟩, f1, _⟩ := nb
 have lt := cR w.ba.fre
 have m1 : ∀ a ∈ Bk.foot B { b with fre := H.length, fresh := [] }, a ∈ b.foot B \/ H.length <= a := by
  intro a ha
  simp only [Bk.foot, Bk.base, aW, aP, gb, or_false] at ha ⊢
  rcases ha with (h | h | h | h | h | h) | h
  ·simp [h]
  ·simp [h]
  ·simp [h]
  ·simp [h]
  ·exact .inr (by trivial)
  ·simp [h]
  ·exact .inl (.inr h)
 refine ⟨_, ?_, w.book ⟨h1, ((Fr.refl _ _).app _).set (.inl (by simp [Bk.foot, Bk.base])), m1⟩, ?_, by simp; trivial, fun m => w.dj _ m (by simp [Bk.foot, Bk.base]), ?_⟩
 ·simp only [iZ, oR_r, oIn_i, oAt_a, hh.inst, hh.attrs, gk]; rfl
 ·rw [dI b3]; exact hh.fre
 ·intro m
  simp only [Bk.foot, Bk.base, aW, aP, gb, or_false, bg] at m
  rcases m with (h | h | h | h | h | h) | ⟨u, hu, h⟩ | ⟨u, hu, h⟩
  ·exact a4 h.symm
  ·exact b3 h.symm
  ·exact c2 h.symm
  ·exact d1 h.symm
  ·trivial
  ·exact f1 h
  ·exact ne.bc b.fre (by simp [Bk.base]) u hu h.symm
  ·exact ne.bw b.fre (by simp [Bk.base]) u hu h.symm
theorem NB (w : W2 H S y st B b) (hf : b.fresh = []) (q : ∀ H' f, bP H S y B b H' y st { b with fre := f, fresh := [] } -> Q (.bool true) H') : WC (n + 12) 28 [.ref B, .ref S] H Q := by
 rw [jp (f := 28) rfl rfl]
 obtain ⟨H1, s1, g1, s2, s3, s4, s5⟩ := B8 w
 have hu := w.ba.uni
 rw [hf] at s2
 simp only [b28, WXs_cons, WXs_nil]
 simp [yR, w.ba.a9, hu, jJ, bU]
 simp [Ce, w.ba.a10, bh, s1]
 simp? only [AR, eW, fC, d9, exists_eq_left']
 simp only [s2, isLs_list, kOf2, kFr, gE, jJ]
 refine ⟨by simp [bU, s2], ?_⟩
 simp? only [wI]
 exact nQ w g1 fun H' g => q H' _ g
end
end
section
section
variable {n : Nat} {H : AH} {S B : Nat} {y : aO} {st : St} {b : Bk} {Q : V -> AH -> Prop}
theorem MW (w : W2 H S y st B b) (t : bf st) {cs : List (List aj)} (ho : gz cs) (hb : gp b cs fun u' => False) (hf : b.fresh = bQ cs.length)
  (qF : ∀ H' y' st', aB H' S y' st' -> st'.marks = st.marks -> Q (.bool false) H')
  (q : ∀ H' y' st' b', bP H S y B b H' y' st' b' -> bf st' -> gp b' cs (· < cs.length) -> b'.fresh = [] -> st'.marks = st.marks -> st'.failed = st.failed -> Q (.bool true) H') :
  WC (n + 110) 28 [.ref B, .ref S] H Q := by
 obtain ⟨H1, s1, g1, s2, s3, s4, s5⟩ := B8 w
 have n8 := ho.n8
 have key : ∀ (m i : Nat) (Hi : AH) (yi : aO) (Sq : St) (bi : Bk) (u v : Option V), i + m = cs.length -> bP H S y B b Hi yi Sq bi -> ag Hi b.fre = some (.list (b.fresh.map az)) -> b.fre < Hi.length -> b.fre ∉ yi.foot S -> b.fre ∉ bi.foot B →
   bf Sq -> gp bi cs (· < i) -> bi.fresh = [] -> Sq.marks = st.marks -> Sq.failed = st.failed →
   eM (PT (n + 108)).e (bY (PT (n + 108)).x zU) (.name 2) (some (b.fre, b.fresh.map az)) ((eV i m).map az) [some (.ref B), some (.ref S), u, v, some (.ref b.fre)] Hi
    (dn (bY (PT (n + 109)).x [wI]) (kEnd H Q)) := by
  intro m
  induction m with
  | zero =>
   intro i Hi yi Sq bi u v hi gi si _ _ _ ti bo fi mi fa
   refine And.intro (by simp [bU, si]) (nQ (Q := Q) w gi fun H' g => q H' _ _ _ g ti ?_ fi mi fa)
   exact hi ▸ bo
  | succ m ih =>
   intro i Hi yi Sq bi u v hi gi si l1 l2 l3 ti bo fi mi fa
   have wi := gi.w
   have hic : i < cs.length := hi ▸ Nat.lt_add_of_pos_right (tn m)
   have Uj : i < bi.cl.length := by rw [bo.len]; exact hic
   obtain ⟨a, c, hk⟩ : ∃ a c, bi.cl[i]? = some (a, c) := ⟨_, _, bR Uj⟩
   obtain ⟨c2, c4, co, ck⟩ := bo.cls ho hk
   refine And.intro (by simp [bU, si]) (wi.ba.mm tm_0_9 (z7 (n := n + 6) wi ti hk c2 c4 co bo.wi n8 ck (bo.nw i (eR i)) fun H2 a2 p WF p1 p2 g2 i2 e1 e2 => ?_))
   have Zf := bo.upd hk (a' := a2) p1 i2 e1 e2 (pl' := (· < i + 1)) (fun j hj => by trivial) (j7 i)
   have VG := wi.book g2
   have w2 := VG.w
   have Ta : (bi.cl.set i (a2, p))[i]? = some (a2, p) := kf Uj
   obtain ⟨d2, d4, do_, dk⟩ := Zf.cls ho Ta
   obtain ⟨o1, o2, o3, o4⟩ := VG.out l1 l2 l3
   refine w2.ba.mm tm_0_12 (wX (n := n + 25) w2 ti Ta d2 d4 do_ i2 n8 dk e1 fun r H3 y3 SG c3 Ux vo g3 i3 e3 e4 => ?_)
   have bo3 := Zf.upd Ta (a' := a2) vo.1.pm i3 e3 e4 (pl' := (· < i + 1)) (fun j hj => kr) (j7 i)
   obtain ⟨q1, q2, q3, q4⟩ := g3.out o2 o3 o4
   have Xi : ag H3 b.fre = some (.list (b.fresh.map az)) := q1.trans (o1.trans si)
   cases r with
   | false =>
    refine fh Xi (And.intro ⟨rfl, by rw [hf, aM, qR]; exact n3 n8 rfl⟩ (iB (n := n + 105) (gI az (fun (j : Nat) => decide ((j : Int) > (i : Int))) az (fun q => ∃ x z, q = [some (.ref B), some (.ref S), some (.int i), v, some (.ref b.fre), x, z]) (by simp [bU, Xi]) b.fresh rfl ⟨_, _, rfl⟩ ?_ ?_)))
    ·rintro j hj loc ⟨x, z, rfl⟩
     exact ⟨_, rfl, ⟨_, _, rfl⟩, iI (ab rfl (kI (P := fun x => x = decide ((j : Int) > (i : Int)) /\ H3 = H3) ⟨rfl, rfl⟩)), fun u' => hV ⟨rfl, rfl⟩⟩
    ·have w3 := g3.w
     have hh := w3.ba.app [ar.list ((b.fresh.filter fun (j : Nat) => decide ((j : Int) > (i : Int))).map az)]
     refine ab (qe hh.inst hh.attrs) (vv (Q := Q) w.sa (st' := SG) (y' := y3) (w3.sa.frame fun a' Um => ?_) fun H' y' g => qF H' y' SG g (vo.marks.trans mi))
     exact (dI fun e => w3.dj a' Um (by rw [<-e]; exact rJ (k := 1) rfl)).trans (eY (w3.sa.lt a' Um))
   | true =>
    exact ih (i + 1) H3 y3 SG _ _ _ (by rw [<-hi]; exact DB i 1 m) ((gi.trans VG).trans g3) Xi q2 q3 q4 (vo.tok ti) bo3 fi (vo.marks.trans mi) (vo.failed.trans fa)
 have k0 := key cs.length 0 H1 y st _ none none (Nat.zero_add _) g1 s2 s3 s4 s5 t ⟨hb.len, hb.pm, hb.wi, fun k a c u' hk => absurd hk (CV k), fun k u' => hb.nw k fun q => q⟩ rfl rfl rfl
 rw [show (eV 0 cs.length).map az = b.fresh.map az by rw [hf, xU]] at k0
 exact bD (f := 28) rfl rfl (ab w.ba.a9 (fh w.ba.uni (And.intro (by simp [bU, w.ba.uni]) (ab w.ba.a10 (ab s1 (fh s2 k0))))))
end
end
section
theorem KE : ∀ (t : List bW) (d : List M), full d -> eF d t -> sub d (run d t) := by
 intro t
 induction t with
 | nil =>
  intro d _ _
  exact Jb d
 | cons e r iH =>
  intro d hd t
  obtain ⟨t1, t2, t3, t4, t5, t6, t7⟩ := t
  refine Ek ?_ (iH _ (od hd t1 t5) t7)
  rw [t2]; exact wf (by rw [hd.1]; exact t1)
theorem On {t : List bW} (h : eF D0 t) (m : Nat) : sub (run D0 (t.take m)) (run D0 t) := by
 have e := (ub m t).symm
 have h' := h
 rw [e, sP] at h'
 conv => rhs; rw [e, ur]
 exact KE _ _ (zC _ _ qC h'.1) h'.2
structure Good (st : St) (b : Bk) (cs : List (List aj)) : Prop where
 t : bf st
 bo : gp b cs (· < cs.length)
 fr : b.fresh = []
 sn : ∀ m ∈ st.marks, ∀ p ∈ b.cl, Wt (run D0 (st.trail.take m)) p.2
theorem Good.vis {st st' : St} {b : Bk} {cs : List (List aj)} (g : Good st b cs) {k a : Nat} {c c' : List aj} {r : Bool} (hk : b.cl[k]? = some (a, c)) (Uh : k < cs.length) (v : gS st c r st' c') {Sn : List (Int × (Nat × List Nat))} (wi : c8 Sn cs.length)
  (e1 : ∀ z, k ∈ wl Sn z ↔ z ∈ M.Tactic.fr c') (e2 : ∀ j z, j ≠ k -> (j ∈ wl Sn z ↔ j ∈ wl b.wa z)) : Good st' { b with cl := b.cl.set k (a, c'), wa := Sn } cs := by
 refine ⟨v.tok g.t, g.bo.upd hk v.1.pm wi e1 e2 (fun u' u' => kr) Uh, g.fr, fun m hm p hp => ?_⟩
 rw [v.marks] at hm
 have Uf := g.t.ma m hm
 have ht : st'.trail.take m = st.trail.take m := by
  obtain ⟨_, ⟨_, rfl, _⟩ | ⟨_, l, o, why, _, hl, h0, _, rfl, _⟩ | ⟨_, _, cl, _, rfl⟩⟩ := v
  ·rfl
  ·exact Rp Uf
  ·rfl
 rw [ht]
 rcases rL hp with rfl | ⟨j, _, hj⟩
 ·refine v.1.sn _ ?_ (g.sn m hm _ (aT hk))
  rw [g.t.dm]; exact On g.t.tr m
 ·exact g.sn m hm p (aT hj)
noncomputable def newx (st st' : St) : List Nat := (st'.trail.drop st.trail.length).map (·.x)
theorem gS.newx {st st' : St} {c c' : List aj} (v : gS st c true st' c') : Wt st'.doms c' /\ (st'.trail.length = st.trail.length + (M.Tactic.newx st st').length) ∧
  ((M.Tactic.newx st st' = [] /\ st' = st) \/ ∃ l : aj, M.Tactic.newx st st' = [l.x] /\ l.ok /\ st'.doms = st.doms.set l.x (st.doms.getD l.x 0 &&& l.m)) := by
 obtain ⟨_, ⟨_, rfl, h, _⟩ | ⟨_, l, o, why, _, hl, h0, _, rfl, h⟩ | ⟨q, _, cl, _, rfl⟩⟩ := v
 ·have : M.Tactic.newx st' st' = [] := by simp [M.Tactic.newx]
  exact ⟨h, by simp [this], .inl ⟨this, rfl⟩⟩
 ·have : M.Tactic.newx st (dL st l why (.int (-1))) = [l.x] := by simp [M.Tactic.newx, dL]
  exact ⟨h, by rw [this]; simp [dL], .inr ⟨l, this, hl, rfl⟩⟩
 ·cases q
section
variable {n : Nat} {H : AH} {S B : Nat} {y : aO} {st : St} {b : Bk} {Q : V -> AH -> Prop}
theorem bP.set {H' : AH} {y' : aO} {st' : St} {b' : Bk} (g : bP H S y B b H' y' st' b') {a : Nat} (ha : H.length <= a) (h1 : a ∉ y'.foot S) (h2 : a ∉ b'.foot B) (o : ar) : bP H S y B b (H'.set a o) y' st' b' :=
 ⟨⟨g.w.sa.frame fun z hz => dI fun e => h1 (e ▸ hz), g.w.ba.frame fun z hz => dI fun e => h2 (e ▸ hz), g.w.dj⟩, g.fr.set (.inr ha), g.ys, g.bs⟩
def iq (st : St) (b : Bk) (qu : List Nat) (R7 : Nat) (T4 : List Nat) : Prop := ∀ (k a : Nat) (c : List aj), b.cl[k]? = some (a, c) -> Wt st.doms c \/ k ∈ T4 \/ ∃ j x, R7 <= j /\ qu[j]? = some x /\ (x : Int) ∈ fr c
theorem iq.vis {st st' : St} {b : Bk} {cs : List (List aj)} (g : Good st b cs) (ho : gz cs) {qu T4 : List Nat} {R7 : Nat} (hs : R7 <= qu.length) {k a : Nat} {c c' : List aj} (hk : b.cl[k]? = some (a, c)) (p : iq st b qu R7 (k :: T4)) (v : gS st c true st' c') (Sn : List (Int × (Nat × List Nat))) :
  iq st' { b with cl := b.cl.set k (a, c'), wa := Sn } (qu ++ newx st st') R7 T4 := by
 obtain ⟨v1, v2, v3⟩ := v.newx
 have SZ := (bG.mp hk).1
 intro j a1 c1 hj
 simp only [oZ] at hj
 by_cases e : k = j
 ·subst e
  rw [if_pos rfl, if_pos SZ] at hj; cases hj
  exact .inl v1
 ·rw [if_neg e] at hj
  rcases p j a1 c1 hj with h | h | ⟨i, x, h1, h2, h3⟩
  ·rcases v3 with ⟨_, rfl⟩ | ⟨l, e1, hl, e2⟩
   ·exact .inl h
   ·obtain ⟨d2, _, _, _⟩ := g.bo.cls ho hj
    rcases c1 with _ | ⟨l0, _ | ⟨l1, r⟩⟩
    ·simp at d2
    ·simp at d2
    by_cases q : l0.x = l.x \/ l1.x = l.x
    ·refine .inr (.inr ⟨qu.length, l.x, hs, by rw [e1]; simp, ?_⟩)
     rcases q with q | q <;> simp [fr, q]
    ·left
     rw [e2]
     exact zy (by rw [g.t.len]; exact hl.1) h (fun z => q (.inl z)) fun z => q (.inr z)
  ·rcases aP.mp h with h | h
   ·exact absurd h.symm e
   ·exact .inr (.inl h)
  ·refine .inr (.inr ⟨i, x, h1, ?_, h3⟩)
   rw [gY (bG.mp h2).1]; exact h2
theorem LW {cs : List (List aj)} (ho : gz cs) {ch : V} {R7 qa : Nat} (YK : H.length <= qa) {Qx : Fl -> Loc -> AH -> Prop}
  (hR : ∀ loc H' y' st' b', bP H S y B b H' y' st' b' -> Good st' b' cs -> st'.marks = st.marks -> Qx (.ret (.bool false)) loc H')
  (hN : ∀ mk u H' y' st' b' qu, bP H S y B b H' y' st' b' -> ag H' qa = some (.list (qu.map az)) -> qa < H'.length -> qa ∉ y'.foot S -> qa ∉ b'.foot B -> Good st' b' cs -> st'.marks = st.marks -> st'.failed = st.failed -> R7 < qu.length -> qu.length <= 3 + st'.trail.length -> iq st' b' qu (R7 + 1) [] -> Qx .next [some (.ref B), some (.ref S), some ch, mk, some (.ref qa), some (.int R7), u] H') :
  ∀ (T4 : List Nat) (Hi : AH) (yi : aO) (Sq : St) (bi : Bk) (qu : List Nat) (mk u : Option V), bP H S y B b Hi yi Sq bi -> ag Hi qa = some (.list (qu.map az)) -> qa < Hi.length -> qa ∉ yi.foot S -> qa ∉ bi.foot B -> Good Sq bi cs -> Sq.marks = st.marks -> Sq.failed = st.failed -> R7 < qu.length -> qu.length <= 3 + Sq.trail.length →
   (∀ k ∈ T4, k < cs.length) -> iq Sq bi qu (R7 + 1) T4 →
   hM (n + 86) (.name 6) vY none (T4.map az) [some (.ref B), some (.ref S), some ch, mk, some (.ref qa), some (.int R7), u] Hi Qx := by
 intro T4
 induction T4 with
 | nil =>
  intro Hi yi Sq bi qu mk u gi qi l1 l2 l3 go mi fa sl ql _ pe
  rw [gE, jJ]
  exact ⟨rfl, hN mk u Hi yi Sq bi qu gi qi l1 l2 l3 go mi fa sl ql pe⟩
 | cons k T4 ih =>
  intro Hi yi Sq bi qu mk u gi qi l1 l2 l3 go mi fa sl ql rl pe
  rw [cA, lH]
  refine ⟨rfl, ?_⟩
  have wi := gi.w
  have Uh := rl k aL
  have SZ : k < bi.cl.length := by rw [go.bo.len]; exact Uh
  obtain ⟨a, c, hk⟩ : ∃ a c, bi.cl[k]? = some (a, c) := ⟨_, _, bR SZ⟩
  obtain ⟨c2, c4, co, _⟩ := go.bo.cls ho hk
  simp only [vY, WXs_cons, WXs_nil, WSt_name, uh, xV]
  simp [Cs, wi.sa.a2, dF, bK, wi.sa.trl, az]
  simp? only [A1, eW, fC, d9, exists_eq_left', V.ref.injEq, wi.ba.wm]
  refine wX (n := n + 3) wi go.t hk c2 c4 co go.bo.wi ho.n8 Uh (go.bo.wk k a c hk Uh) fun r H3 y3 SG c3 Ux vo g3 i3 e3 e4 => ?_
  have gd := go.vis hk Uh vo i3 e3 e4
  have gg := gi.trans g3
  obtain ⟨q1, q2, q3, q4⟩ := g3.out l1 l2 l3
  cases r
  ·simp? only [jt, if_true]
   exact hR _ H3 y3 SG _ gg gd (vo.marks.trans mi)
  ·simp? only [gf, cu, if_false]
   have w3 := g3.w
   obtain ⟨v1, v2, v3⟩ := vo.newx
   have tl := gd.t.tl
   have Uk : d6 (SG.trail.map cV) (some Sq.trail.length) none = (SG.trail.drop Sq.trail.length).map cV := by
    unfold d6; simp only [xi, DE]
   have Se : ag H3 qa = some (.list (qu.map az)) := q1.trans qi
   have hb : fN (some (.int ((Sq.trail.length : Nat) : Int))) = some (some Sq.trail.length) := by simp only [fN]; rw [if_pos (by trivial)]; rfl
   simp? only [BA, eW, fC, Iu Se, w3.sa.a2, bK, w3.sa.trl, hb, Uk, aM, mX]
   refine ⟨⟨rfl, by trivial⟩, ?_⟩
   refine gI cV (fun u' => true) (fun e => az e.x) (fun q => ∃ x z, q = [some (.ref B), some (.ref S), some ch, some (.int Sq.trail.length), some (.ref qa), some (.int R7), some (.int k), x, z]) rfl _ rfl ⟨_, _, rfl⟩ ?_ ?_
   ·rintro e he loc ⟨x, z, rfl⟩
    simp [iL, p6, az]
   ·rw [xR.mpr (by simp)]
    have en : (SG.trail.drop Sq.trail.length).map (fun e => az e.x) = (M.Tactic.newx Sq SG).map az := by simp [M.Tactic.newx, DD]
    have lm : dB H3 qa (qu.map az) 1 [.lst ((M.Tactic.newx Sq SG).map az)] = some (.none, H3.set qa (.list ((qu ++ M.Tactic.newx Sq SG).map az))) := by
     simp only [sH, ze, uK, z6, bK, Rq, aM]
     rw [if_neg (by simp), if_pos (by trivial), eJ]
    simp? only [en, Se, lm]
    refine ih _ y3 SG _ (qu ++ M.Tactic.newx Sq SG) _ _ (gg.set (by trivial) q3 q4 _) (fU Se) (by simpa using q2) q3 q4 gd (vo.marks.trans mi) (vo.failed.trans fa) (by rw [dg]; trivial) (by rw [dg]; trivial) (fun j hj => rl j (aQ _ hj)) ?_
    exact iq.vis go ho (by trivial) hk pe vo Ux
end
end
section
theorem w29 {n : Nat} {loc : Loc} {H : AH} {Qx : Fl -> Loc -> AH -> Prop} : WX (n + 1) mE loc H Qx = WE n sF loc H (kWh (bN n vj) (WX n mE) loc Qx) := NH
section
variable {n : Nat} {H : AH} {S B : Nat} {y : aO} {st : St} {b : Bk} {Q : V -> AH -> Prop}
theorem IB {cs : List (List aj)} (ho : gz cs) {ch : V} {qa : Nat} (YK : H.length <= qa) {Qx : Fl -> Loc -> AH -> Prop}
  (hR : ∀ loc H' y' st' b', bP H S y B b H' y' st' b' -> Good st' b' cs -> st'.marks = st.marks -> Qx (.ret (.bool false)) loc H')
  (hN : ∀ loc H' y' st' b', bP H S y B b H' y' st' b' -> Good st' b' cs -> st'.marks = st.marks -> st'.failed = st.failed -> (∀ p ∈ b'.cl, Wt st'.doms p.2) -> Qx .next loc H') :
  ∀ (m R7 : Nat) (Hi : AH) (yi : aO) (Sq : St) (bi : Bk) (qu : List Nat) (mk u : Option V), R7 + m = 13 -> bP H S y B b Hi yi Sq bi -> ag Hi qa = some (.list (qu.map az)) -> qa < Hi.length -> qa ∉ yi.foot S -> qa ∉ bi.foot B -> Good Sq bi cs -> Sq.marks = st.marks -> Sq.failed = st.failed -> qu.length <= 3 + Sq.trail.length →
   iq Sq bi qu R7 [] →
   WX (n + m + 90) mE [some (.ref B), some (.ref S), some ch, mk, some (.ref qa), some (.int R7), u] Hi Qx := by
 intro m
 induction m with
 | zero =>
  intro R7 Hi yi Sq bi qu mk u hm gi qi l1 l2 l3 go mi fa ql pe
  have tl := go.t.tl
  rw [w29]
  simp [sF, dF, bK, qi]
  rw [if_neg (by trivial)]
  refine hN _ _ _ _ _ gi go mi fa fun p hp => ?_
  obtain ⟨k, hk⟩ := ju.mp hp
  rcases pe k p.1 p.2 hk with h | h | ⟨j, x, h1, h2, _⟩
  ·exact h
  ·simp at h
  ·have := (bG.mp h2).1; trivial
 | succ m ih =>
  intro R7 Hi yi Sq bi qu mk u hm gi qi l1 l2 l3 go mi fa ql pe
  rw [show n + (m + 1) + 90 = (n + m + 90) + 1 by trivial, w29]
  simp [sF, dF, bK, qi]
  by_cases c : R7 < qu.length
  ·rw [if_pos c]
   have wi := gi.w
   obtain ⟨x, hx⟩ : ∃ x, qu[R7]? = some x := ⟨_, bR c⟩
   have s1 : cf Hi (.ref qa) (.int R7) = some (az x) := by rw [iD qi, jw, cM, hx]; rfl
   have hd : gQ Hi bi.wat (bi.wa.map eE) 5 [.int x, .lst []] = some (((bS bi.wa x).elim (.lst []) fun p => .ref p.1), Hi) := by
    simp only [wy, BR, pG]; rcases bS bi.wa x with _ | p <;> rfl
   have hs : dF Hi ((bS bi.wa x).elim (.lst []) fun p => .ref p.1) = some ((wl bi.wa x).map az) := by
    unfold wl
    rcases hw : bS bi.wa x with _ | p
    ·rfl
    ·simp only [Option.elim, dF, bK, asL_l, wi.ba.waL _ (mr hw)]
   simp only [vj, WXs_cons, WXs_nil]
   simp? only [Cp, eW, fC, d9, exists_eq_left', V.ref.injEq, wi.ba.a11, O9 wi.ba.wat, s1, wi.ba.wat, az, hd, hs, dN]
   refine LW (n := n + m + 3) ho YK (fun R3 H' y' st' b' g' Tb TB => ?_) (fun mk' u' H' y' st' b' Zv g' Zx ZL ZK ZJ Tb TB Vs WJ Zw ZC => ?_) (wl bi.wa x) Hi yi Sq bi qu mk u gi qi l1 l2 l3 go mi fa c ql (go.bo.wi.lt x) ?_
   ·exact hR R3 H' y' st' b' g' Tb TB
   ·simp [Ai]
    have := ih (R7 + 1) H' y' st' b' Zv mk' u' (by trivial) g' Zx ZL ZK ZJ Tb TB Vs Zw ZC
    simpa using this
   ·intro k a cc hk
    rcases pe k a cc hk with h | h | ⟨j, x', h1, h2, h3⟩
    ·exact .inl h
    ·simp at h
    ·by_cases e : j = R7
     ·subst e
      rw [hx] at h2; cases h2
      have kc : k < cs.length := by rw [<-go.bo.len]; exact (bG.mp hk).1
      exact .inr (.inl ((go.bo.wk k a cc hk kc x).mpr h3))
     ·exact .inr (.inr ⟨j, x', by trivial, h2, h3⟩)
  ·rw [if_neg c]
   refine hN _ _ _ _ _ gi go mi fa fun p hp => ?_
   obtain ⟨k, hk⟩ := ju.mp hp
   rcases pe k p.1 p.2 hk with h | h | ⟨j, x, h1, h2, _⟩
   ·exact h
   ·simp at h
   ·have := (bG.mp h2).1; trivial
theorem Cn {cs : List (List aj)} (ho : gz cs) {chs : List Nat} (h3 : chs.length <= 3) {mk : Nat} {Hi : AH} {yi : aO} {Sq : St} {bi : Bk} (gi : bP H S y B b Hi yi Sq bi) (go : Good Sq bi cs) (mi : Sq.marks = st.marks) (fa : Sq.failed = st.failed) (pe : iq Sq bi chs 0 [])
  {Qx : Fl -> Loc -> AH -> Prop}
  (hR : ∀ loc H' y' st' b', bP H S y B b H' y' st' b' -> Good st' b' cs -> st'.marks = st.marks -> Qx (.ret (.bool false)) loc H')
  (hN : ∀ loc H' y' st' b', bP H S y B b H' y' st' b' -> Good st' b' cs -> st'.marks = st.marks -> st'.failed = st.failed -> (∀ p ∈ b'.cl, Wt st'.doms p.2) -> Qx (.ret (.bool true)) loc H') :
  bN (n + 103) [qj, pM, mE, qg] [some (.ref B), some (.ref S), some (.lst (chs.map az)), some (.int mk), none, none, none] Hi Qx := by
 have wi := gi.w
 have tl := go.t.tl
 have Uk : d6 (Sq.trail.map cV) (some mk) none = (Sq.trail.drop mk).map cV := by
  unfold d6; simp only [xi, DE]
 simp only [WXs_cons, WXs_nil]
 simp? only [qj, eW, fC, d9, exists_eq_left', V.ref.injEq, wi.sa.a2, bK, wi.sa.trl, V.isNone, dF, dN]
 have hb : fN (some (.int ((mk : Nat) : Int))) = some (some mk) := by simp only [fN]; rw [if_pos (by trivial)]; rfl
 simp? only [cu, if_false, eW, fC, wi.sa.a2, bK, wi.sa.trl, hb, Uk, aM, mX]
 refine ⟨⟨rfl, by trivial⟩, ?_⟩
 refine gI cV (fun u' => true) (fun e => az e.x) (fun q => ∃ x z, q = [some (.ref B), some (.ref S), some (.lst (chs.map az)), some (.int mk), none, none, none, x, z]) rfl _ rfl ⟨_, _, rfl⟩ ?_ ?_
 ·rintro e he loc ⟨x, z, rfl⟩
  simp [iL, p6, az]
 ·rw [xR.mpr (by simp)]
  have en : (Sq.trail.drop mk).map (fun e => az e.x) = ((Sq.trail.drop mk).map (·.x)).map az := by simp [DD]
  have al : lM Hi .add (.lst (chs.map az)) (.lst (((Sq.trail.drop mk).map (·.x)).map az)) = some (.ref Hi.length, Hi ++ [ar.list ((chs ++ (Sq.trail.drop mk).map (·.x)).map az)]) := by
   simp only [lM, bK, Rq, aM, mX]
   rw [if_pos (by trivial)]; simp only [bh, eJ]
  simp? only [en, al, pM, uh, xV]
  have g2 : bP H S y B b (Hi ++ [ar.list ((chs ++ (Sq.trail.drop mk).map (·.x)).map az)]) yi Sq bi :=
   ⟨⟨gi.w.sa.frame fun z hz => eY (gi.w.sa.lt z hz), gi.w.ba.app _, gi.w.dj⟩, gi.fr.app _, gi.ys, gi.bs⟩
  refine IB (n := n) (qa := Hi.length) ho (by exact gi.fr.1) (fun loc H' y' st' b' g' Tb TB => ?_) (fun loc H' y' st' b' g' Tb TB Vs VK => ?_) 13 0 _ yi Sq bi _ _ _ (by trivial) g2 (iG _ _) (by simp) (fun m => eR _ (gi.w.sa.lt _ m)) (fun m => eR _ (gi.w.ba.lt _ m)) go mi fa ?_ ?_
  ·exact hR loc H' y' st' b' g' Tb TB
  ·simp? only [onFl, qg]
   exact hN loc H' y' st' b' g' Tb TB Vs VK
  ·simp; trivial
  ·intro k a c hk
   rcases pe k a c hk with h | h | ⟨j, x, h1, h2, h3⟩
   ·exact .inl h
   ·simp at h
   ·exact .inr (.inr ⟨j, x, h1, by rw [gY (bG.mp h2).1]; exact h2, h3⟩)
end
end
section
section
variable {n : Nat} {H : AH} {S B : Nat} {y : aO} {st : St} {b : Bk} {Q : V -> AH -> Prop}
theorem gp.mono {b : Bk} {cs : List (List aj)} {p : Nat -> Prop} (h : gp b cs p) {f : Nat} {fs : List Nat} : gp { b with fre := f, fresh := fs } cs p := ⟨h.len, h.pm, h.wi, h.wk, h.nw⟩
theorem KW (w : W2 H S y st B b) {cs : List (List aj)} (ho : gz cs) (go : Good st b cs) {chs : List Nat} (h3 : chs.length <= 3) (pe : iq st b chs 0 [])
  (q : ∀ r H' y' st' b', bP H S y B b H' y' st' b' -> Good st' b' cs -> st'.marks = st.marks -> (r = true -> st'.failed = st.failed /\ ∀ p ∈ b'.cl, Wt st'.doms p.2) -> Q (.bool r) H') :
  WC (n + 114) 29 [.ref B, .ref S, .lst (chs.map az)] H Q := by
 rw [jp (f := 29) rfl rfl]
 rw [show vd = [pr, pX] ++ [qj, pM, mE, qg] from rfl]
 simp only [kj, kg]
 rw [WXs_cons]
 simp [pr, w.sa.a2, dF, bK, w.sa.trl]
 simp? only [pX, eW, fC, d9, exists_eq_left', V.ref.injEq, w.ba.wm]
 refine NB (n := n + 98) w go.fr fun H1 f g1 => ?_
 simp only [kNot, isB_bool, kNot2, kXi, kXi2, kSeq_next, WXs_nil, gf, cu, if_false]
 have Yd : Good st { b with fre := f, fresh := [] } cs := ⟨go.t, go.bo.mono, rfl, go.sn⟩
 have := Cn (n := n + 10) (mk := st.trail.length) ho h3 g1 Yd rfl rfl pe (Qx := kEnd H Q) (fun loc H' y' st' b' g' Tb TB => nQ w g' fun Tc Up => q false Tc y' st' b' Up Tb TB (by simp)) fun loc H' y' st' b' g' Tb TB Vs VK => nQ w g' fun Tc Up => q true Tc y' st' b' Up Tb TB fun u' => ⟨Vs, VK⟩
 exact this
theorem Hh (w : W2 H S y st B b) {cs : List (List aj)} (ho : gz cs) (t : bf st) (hb : gp b cs fun u' => False) (hf : b.fresh = bQ cs.length) (hm : st.marks = [])
  (qF : ∀ H' y' st', aB H' S y' st' -> st'.marks = [] -> Q (.bool false) H')
  (q : ∀ H' y' st' b', bP H S y B b H' y' st' b' -> Good st' b' cs -> st'.marks = [] -> st'.failed = st.failed -> (∀ p ∈ b'.cl, Wt st'.doms p.2) -> Q (.bool true) H') :
  WC (n + 114) 29 [.ref B, .ref S, .lst ([0, 1, 2].map az)] H Q := by
 rw [jp (f := 29) rfl rfl]
 rw [show vd = [pr, pX] ++ [qj, pM, mE, qg] from rfl]
 simp only [kj, kg]
 rw [WXs_cons]
 simp [pr, w.sa.a2, dF, bK, w.sa.trl]
 simp? only [pX, eW, fC, d9, exists_eq_left', V.ref.injEq, w.ba.wm]
 refine MW (n := n) w t ho hb hf (fun H1 y1 S7 s1 m1 => ?_) fun H1 y1 S7 b1 g1 t1 Zg f1 m1 Yf => ?_
 ·simp? only [jt, if_true]
  exact vv w.sa s1 fun H' y' s' => qF H' y' S7 s' (m1.trans hm)
 simp only [kNot, isB_bool, kNot2, kXi, kXi2, kSeq_next, WXs_nil, gf, cu, if_false]
 have Yd : Good S7 b1 cs := ⟨t1, Zg, f1, fun m YP => by rw [m1, hm] at YP; simp at YP⟩
 have pe : iq S7 b1 [0, 1, 2] 0 [] := by
  intro k a c hk
  obtain ⟨c2, _, co, _⟩ := Zg.cls ho hk
  rcases c with _ | ⟨l0, c⟩
  ·simp at c2
  have := (co l0 (by simp)).1
  refine .inr (.inr ⟨l0.x, l0.x, dZ _, ?_, by unfold fr; exact bg.mpr ⟨l0, by simp, rfl⟩⟩)
  have : l0.x = 0 \/ l0.x = 1 \/ l0.x = 2 := by trivial
  rcases this with e | e | e <;> rw [e] <;> rfl
 have := Cn (n := n + 10) (mk := st.trail.length) ho (chs := [0, 1, 2]) (by simp) g1 Yd m1 Yf pe (Qx := kEnd H Q) (fun loc H' y' st' b' g' Tb TB => vv w.sa g'.w.sa fun Tc Zm Up => qF Tc Zm st' Up (TB.trans hm)) fun loc H' y' st' b' g' Tb TB Vs VK => nQ w g' fun Tc Up => q Tc y' st' b' Up Tb (TB.trans hm) Vs VK
 exact this
end
end
section
noncomputable def bI (cells : List Int) (R7 : Nat) : ar := .list [.lst (cells.map .int), .int R7]
theorem EB (cells : List Int) (n : Nat) : aI (n + 1) (.lst (cells.map .int)) = true := by
 rw [sh, bJ]; intro v hv; obtain ⟨a, _, rfl⟩ := bg.mp hv; exact md _ _
section
variable {n : Nat} {H : AH} {Q : V -> AH -> Prop}
theorem lP {F : Nat} {cells : List Int} {R7 : Nat} (h : ag H F = some (bI cells R7)) (hc : cells.length <= 64) (hs : R7 < 1000) {k : Nat} (h0 : 0 < k) (hk : k < 100)
  (q : ∀ v : Nat, v < k -> Q (.int v) (H.set F (bI cells (R7 + 1)))) : WC (n + 20) 10 [.ref F, .int k] H Q := by
 rw [jp (f := 10) rfl rfl]
 have hF := cR h
 have s0 : cf H (.ref F) (.int 0) = some (.lst (cells.map .int)) := by rw [iD h]; rfl
 have s1 : cf H (.ref F) (.int 1) = some (.int R7) := by rw [iD h]; rfl
 have si : gL H (.ref F) (.int 1) (.int ((R7 : Int) + 1)) = some (H.set F (bI cells (R7 + 1))) := by
  simp only [gL, oR_r, oI_i, oLD_l, oLD_d, h, bI]; simp
 have SM : ag (H.set F (bI cells (R7 + 1))) F ≠ ag H F := by
  rw [fU h, h]; simp [bI]; trivial
 have hm : (max 1 cells.length : Int) = if (cells.length : Int) > 1 then (cells.length : Int) else 1 := by trivial
 simp [b10, y7, s0, s1]
 simp [Ae, si]
 simp [zS, dF, bK]
 have UG : 0 < (if (1 : Int) < (cells.length : Int) then (cells.length : Int) else 1) /\ (if (1 : Int) < (cells.length : Int) then (cells.length : Int) else 1) < 1073741824 := by split <;> trivial
 generalize hL : (if (1 : Int) < (cells.length : Int) then (cells.length : Int) else 1) = L at UG ⊢
 have b0 : 0 <= qJ R7 L /\ qJ R7 L <= R7 := by
  rw [Int.fdiv_eq_ediv_of_nonneg _ (by trivial)]
  exact ⟨Int.ediv_nonneg (by trivial) (by trivial), Int.ediv_le_self _ (by trivial)⟩
 rw [if_pos UG, oWO_some]
 have eq0 : eqv (.lst (cells.map .int)) (.lst []) = some (decide (cells = [])) := by
  have : eqv (.lst (cells.map .int)) (.lst []) = some (decide (V.lst (cells.map .int) = V.lst [])) := by
   show (if (aI 8 _ && aI 8 _) = true then some (decide _) else none) = _
   rw [EB cells 7]; rfl
  rw [this]; simp
 have Sk : ∀ x : Int, 0 <= x -> x < 1000003 -> WX (n + 19) uM [some (.ref F), some (.int k), some (.lst (cells.map .int)), some (.int R7), some (.int (qJ R7 L)), some (.int x)] (H.set F (bI cells (R7 + 1))) (dn (bN (n + 19) []) (kEnd H Q)) := by
  intro x x0 x1
  have m5 : iP R7 5 = (R7 : Int) % 5 := Int.fmod_eq_emod_of_nonneg _ (by trivial)
  simp [uM, m5]
  rw [if_pos ⟨by trivial, by trivial⟩, oWO_some]
  simp? only []
  rw [if_pos (by trivial), oWO_some]
  generalize hz : x + qJ R7 L * (3 + (R7 : Int) % 5) = z
  have r0 : 0 <= iP z k := DF _ (by trivial)
  have r1 : iP z k < k := DG _ (by trivial)
  simp? only []
  rw [mF F hF SM]
  have := q (iP z k).toNat (by trivial)
  rwa [show ((iP z k).toNat : Int) = iP z k by trivial] at this
 simp [yb, eq0]
 by_cases ce : cells = []
 ·simp [ce]
  rw [ce] at Sk
  simpa using Sk 1 (by trivial) (by trivial)
 ·have cl : 0 < cells.length := by rcases cells with _ | _ <;> simp_all
  simp [ce, dF, bK]
  rw [if_pos cl, oWO_some]
  have j0 : 0 <= iP R7 cells.length := DF _ (by trivial)
  have j1 : iP R7 cells.length < cells.length := DG _ (by trivial)
  have sj : ∀ H : AH, cf H (.lst (cells.map .int)) (.int (iP R7 cells.length)) = some (.int (cells[(iP R7 cells.length).toNat]'(by trivial))) := by
   intro H
   rw [A8]; unfold fE; rw [if_pos j0, cM, bR (by trivial)]; rfl
  refine ab (sj _) ?_
  simp? only []
  rw [if_pos (by trivial), oWO_some]
  simp? only []
  refine Sk _ (DF _ (by trivial)) (DG _ (by trivial))
end
end
section
theorem Ov : ∀ {l : List V}, (∀ v ∈ l, ∃ x : aj, x.ok /\ v = au x) -> ∃ c : List aj, l = c.map au /\ ∀ x ∈ c, x.ok := by
 intro l
 induction l with
 | nil =>
  intro _
  exact ⟨[], rfl, by simp⟩
 | cons v r iH =>
  intro h
  obtain ⟨x, h1, rfl⟩ := h v aL
  obtain ⟨c, rfl, h2⟩ := iH fun u hu => h u (aQ _ hu)
  exact ⟨x :: c, rfl, fun z hz => (aP.mp hz).elim (fun e => e ▸ h1) (h2 z)⟩
theorem zr : ∀ (l : List V), (∀ v ∈ fc l, v ∈ l) /\ (fc l).length <= l.length := by
 intro l
 induction l with
 | nil =>
  exact ⟨by simp [mh, lR], by simp [mh, lR]⟩
 | cons x r iH =>
  obtain ⟨h1, h2⟩ := iH
  simp only [mh, lR]
  split
  ·exact ⟨fun v hv => aQ _ (h1 v hv), by rw [iT]; trivial⟩
  ·refine ⟨fun v hv => ?_, by simp only [iT]; trivial⟩
   rcases aP.mp hv with rfl | hv
   ·exact aL
   ·exact aQ _ (h1 v hv)
theorem JF {l : List V} (h : ∀ v ∈ l, v.isLit = true) : cq (cq l) = cq l :=
 rC .lit (fun y hy => h y ((fW l).mem_iff.mp ((fW _).mem_iff.mp hy))) (fW _) (mj .lit fun y hy => h y ((fW l).mem_iff.mp hy)) (mj .lit h)
theorem MR {l l' : List V} (h : ∀ v ∈ l, v.isLit = true) (p : l'.Perm l) : cq l' = cq l :=
 rC .lit (fun y hy => h y (p.mem_iff.mp ((fW l').mem_iff.mp hy))) ((fW _).trans (p.trans (fW l).symm)) (mj .lit fun y hy => h y (p.mem_iff.mp hy)) (mj .lit h)
structure jK (c : List aj) : Prop where
 two : 2 <= c.length
 four : c.length <= 4
 ok : ∀ l ∈ c, l.ok
 srt : cq (c.map au) = c.map au
theorem Cc (c : List aj) : (c.map au).all V.isLit = true := by
 rw [bJ]; intro v hv; obtain ⟨l, _, rfl⟩ := bg.mp hv; exact qt l
theorem yF {c : List aj} (h : c.length <= 4) : sortable (c.map au) = true := by
 unfold sortable; rw [Cc]; simp; trivial
noncomputable def dflt : List aj := [⟨0, .le, 1⟩, ⟨1, .ge, 2⟩]
theorem Bq : cq (dflt.map au) = dflt.map au := by kernel_rfl
section
variable {n : Nat} {H : AH} {Q : V -> AH -> Prop}
theorem zs {F : Nat} {cells : List Int} {R7 : Nat} (h : ag H F = some (bI cells R7)) (hc : cells.length <= 64) (hs : R7 < 900)
  (q : ∀ l : aj, l.ok -> Q (au l) (H.set F (bI cells (R7 + 3)))) : WC (n + 30) 11 [.ref F] H Q := by
 rw [jp (f := 11) rfl rfl]
 have hF := cR h
 have SM : ag (H.set F (bI cells (R7 + 3))) F ≠ ag H F := by
  rw [fU h, h]; simp [bI]; trivial
 simp? only [b11, BX, cA, gE, kj, eW, fC, d9, exists_eq_left']
 refine lP (n := n + 6) (k := 3) h hc (by trivial) (by trivial) (by trivial) fun v0 h0 => ?_
 simp? only []
 refine lP (n := n + 5) (k := 4) (fU h) hc (by trivial) (by trivial) (by trivial) fun v1 h1 => ?_
 have ss : ∀ H : AH, ∃ s : Sg, cf H (.tup [.str fk, .str fq, .str fR, .str gW]) (.int v1) = some (.str (sg s)) := by
  intro H
  have : v1 = 0 \/ v1 = 1 \/ v1 = 2 \/ v1 = 3 := by trivial
  rcases this with rfl | rfl | rfl | rfl
  ·exact ⟨.le, rfl⟩
  ·exact ⟨.ge, rfl⟩
  ·exact ⟨.eq, rfl⟩
  ·exact ⟨.ne, rfl⟩
 rw [nA]
 obtain ⟨s, es⟩ := ss (H.set F (bI cells (R7 + 1 + 1)))
 simp? only []
 refine ab es ?_
 simp? only []
 refine lP (n := n + 6) (k := 4) (fU h) hc (by trivial) (by trivial) (by trivial) fun v2 h2 => ?_
 rw [nA]
 simp? only []
 rw [mF F hF SM]
 exact q ⟨v0, s, v2⟩ ⟨by trivial, by simp, by simp; trivial⟩
theorem EQ {F : Nat} {cells : List Int} (hc : cells.length <= 64) : ∀ (m i : Nat) (H : AH) (R7 : Nat) (x : Option V) (Qs : List V -> AH -> Prop), ag H F = some (bI cells R7) -> R7 + 3 * m < 900 →
  (∀ c : List aj, c.length = m -> (∀ l ∈ c, l.ok) -> Qs (c.map au) (H.set F (bI cells (R7 + 3 * m)))) →
  jR (n + 31) (.fn 11 [.loc 0]) [3] true [] none ((eV i m).map az) [some (.ref F), none, none, x] H Qs := by
 intro m
 induction m with
 | zero =>
  intro i H R7 x Qs h hs q
  simp only [DH, gE, uk]
  refine ⟨rfl, ?_⟩
  have := q [] rfl (by simp)
  rw [show R7 + 3 * 0 = R7 by trivial, rK (by exact h)] at this
  exact this
 | succ m ih =>
  intro i H R7 x Qs h hs q
  simp only [DI, cA, wH]
  refine ⟨rfl, ab rfl ?_⟩
  simp? only [WT_nil, if_true, uh, xV, eW, d9, exists_eq_left']
  refine zs (n := n) h hc (by trivial) fun l hl => ?_
  simp? only []
  refine ih (i + 1) _ (R7 + 3) _ _ (fU h) (by trivial) fun c e1 e2 => ?_
  rw [nA]
  simp only [kCon2]
  have := q (l :: c) (by simp [e1]) (fun z hz => (aP.mp hz).elim (fun e => e ▸ hl) (e2 z))
  rwa [show R7 + 3 * (m + 1) = R7 + 3 + 3 * m by trivial] at this
theorem An {F : Nat} {cells : List Int} {R7 : Nat} (h : ag H F = some (bI cells R7)) (hc : cells.length <= 64) (hs : R7 < 800)
  (q : ∀ (c : List aj) (s' : Nat), jK c -> R7 < s' -> s' <= R7 + 13 -> Q (.tup (c.map au)) (H.set F (bI cells s'))) : WC (n + 40) 12 [.ref F] H Q := by
 rw [jp (f := 12) rfl rfl]
 have hF := cR h
 simp only [b12, WXs_cons, WXs_nil]
 simp? only [Bj, cA, gE, kj, eW, fC, d9, exists_eq_left']
 refine lP (n := n + 15) (k := 3) h hc (by trivial) (by trivial) (by trivial) fun v0 h0 => ?_
 simp? only []
 refine ⟨by trivial, ⟨rfl, by simp; trivial⟩, ?_⟩
 have er : (bQ ((2 : Int) + (v0 : Int)).toNat).map (fun (j : Nat) => V.int (j : Int)) = (eV 0 (2 + v0)).map az := by
  rw [show ((2 : Int) + (v0 : Int)).toNat = 2 + v0 by trivial, xU]; rfl
 rw [er]
 refine EQ (n := n + 6) hc (2 + v0) 0 _ (R7 + 1) _ _ (fU h) (by trivial) fun ls e1 e2 => ?_
 rw [nA]
 generalize Tq : R7 + 1 + 3 * (2 + v0) = s'
 have SM : ag (H.set F (bI cells s')) F ≠ ag H F := by
  rw [fU h, h]; simp [bI]; trivial
 have el : ∀ v ∈ fc (ls.map au), ∃ x : aj, x.ok /\ v = au x := fun v hv => by
  obtain ⟨l, hl, rfl⟩ := bg.mp ((zr _).1 v hv); exact ⟨l, e2 l hl, rfl⟩
 have es : ∀ v ∈ cq (fc (ls.map au)), ∃ x : aj, x.ok /\ v = au x := fun v hv => el v ((fW _).mem_iff.mp hv)
 obtain ⟨c, X2, UO⟩ := Ov es
 have Sx : c.length <= 4 := by
  have := congrArg t0 X2
  rw [(fW _).length_eq] at this
  have := (zr (ls.map au)).2
  simp at this ⊢; simp at *; trivial
 have XF : cq (c.map au) = c.map au := by
  rw [<-X2]; exact JF fun v hv => by obtain ⟨x, _, rfl⟩ := el v hv; exact qt x
 have il := Cc ls
 have l5 : decide ((ls.map au).length < 5) = true := by simp; trivial
 simp [BI, bK, bh, il, l5, X2]
 have ZP : (∀ a ∈ ls, (au a).isLit = true) /\ ls.length < 5 := ⟨fun a u' => qt a, by trivial⟩
 rw [if_pos ZP, oWO_some]
 simp [Al, dF, bK]
 by_cases c1 : (1 : Int) < (c.length : Int)
 ·rw [if_pos c1, mF F hF SM]
  exact q c s' ⟨by trivial, Sx, UO, XF⟩ (by trivial) (by trivial)
 ·rw [if_neg c1]
  have ed : [V.tup [V.int 0, V.str fk, V.int 1], V.tup [V.int 1, V.str fq, V.int 2]] = dflt.map au := rfl
  simp? only [ed, yF (show dflt.length <= 4 by decide), if_true, Bq, dN, dF, bK]
  rw [mF F hF SM]
  refine q dflt s' ⟨by decide, by decide, ?_, Bq⟩ (by trivial) (by trivial)
  intro l hl
  simp [dflt] at hl
  rcases hl with rfl | rfl <;> simp [aj.ok]
end
end
section
noncomputable def cg (D : List M) : V := .lst (D.map bE)
theorem I4 : ∀ m : M, ((bQ 4).filter fun v => m.getLsbD v).map (fun v : Nat => (v : Int)) = fP m := by decide +kernel
theorem Kb (m : M) : ((bQ 4).filter fun v => m.getLsbD v).map az = (fP m).map .int := by
 rw [<-I4 m, nv]; rfl
theorem sr {H : AH} {D : List M} {x : Nat} (h : x < D.length) : cf H (cg D) (.int x) = some (bE (D.getD x 0)) := by
 unfold cg; rw [A8, jw, cM, bR h]; simp [h]
theorem z9 (a : M) : eqv (bE a) (.lst []) = some (decide (a = 0)) := we a 0
theorem IK : ∀ {D : List M}, D.length = 3 -> ∃ a b c, D = [a, b, c]
 | [a, b, c], _ => ⟨a, b, c, rfl⟩
 | [], h => by simp at h
 | [_], h => by simp at h
 | [_, _], h => by simp at h
 | _ :: _ :: _ :: _ :: _, h => by simp at h
section
variable {n : Nat} {H : AH} {S B : Nat} {y : aO} {st : St} {b : Bk} {Q : V -> AH -> Prop}
theorem vc (h : aB H S y st) (t : bf st) : WC (n + 40) 15 [.ref S] H Q ↔ Q (cg st.doms) H := by
 refine d7 ?_
 have Sk : V.lst ((bQ 3).map fun x => bE (st.dom x)) = cg st.doms := by
  unfold cg St.dom
  obtain ⟨a, b, c, e⟩ := IK t.len
  rw [e]; rfl
 refine bD (f := 15) rfl rfl (And.intro (by decide) (And.intro ⟨rfl, by decide⟩ (pw (n := n + 37) az (fun x => bE (st.dom x)) (fun q => ∃ u v, q = [some (.ref S), u, v]) rfl (bQ 3) rfl ⟨_, _, rfl⟩ ?_ ?_)))
 ·rintro x hx loc ⟨u, v, rfl⟩
  have hx := nh.mp hx
  refine ⟨_, rfl, ⟨_, _, rfl⟩, And.intro (by decide) (And.intro ⟨rfl, by decide⟩ (iB (n := n + 36) (gI az (fun v => (st.dom x).getLsbD v) az (fun q => ∃ u v w, q = [some (.ref S), u, some (az x), v, w]) rfl (bQ 4) rfl ⟨_, _, _, rfl⟩ ?_ ?_)))⟩
  ·rintro w hw loc ⟨u, v, z, rfl⟩
   have hw := nh.mp hw
   exact ⟨_, rfl, ⟨_, _, _, rfl⟩, iI (h.mm tm_1_18 ((Kc (n := n + 9) (x := x) (v := w) h (uf hx t.len.symm) hw).mpr (kI (P := fun x' => x' = (st.dom x).getLsbD w /\ H = H) ⟨rfl, rfl⟩))), fun u' => hV ⟨rfl, rfl⟩⟩
  ·rw [Kb]; exact ⟨rfl, rfl⟩
 ·exact cx (Q := fun x H' => x = cg st.doms /\ H' = H) ⟨Sk, rfl⟩
theorem Jc (h : aB H S y st) (t : bf st) {l : aj} (hl : l.ok) : WC (n + 40) 16 [au l, .ref S] H Q ↔ Q (.int (o9 l st.trail)) H := by
 refine d7 ?_
 have hh : ∀ D : List M, ag (H ++ [ar.list (D.map bE)]) H.length = some (.list (D.map bE)) := fun D => iG _ _
 have sb : ∀ (D : List M) (x : Nat), x < D.length -> cf (H ++ [ar.list (D.map bE)]) (.ref H.length) (.int x) = some (bE (D.getD x 0)) := fun D x hx => by
  rw [iD (hh D), jw, cM, bR hx]; simp [hx]
 have hS : ∀ D : List M, aB (H ++ [ar.list (D.map bE)]) S y st := fun D => h.frame fun a ha => eY (h.lt a ha)
 have VF : D0.getD l.x 0 = 15#4 := by
  rcases or3 hl.1 with q | q | q <;> rw [q] <;> rfl
 have s0 := sb D0 l.x hl.1
 rw [VF] at s0
 have Vt : ∀ (D : List M) (z : Int) (w : Int), w = z -> cO H (fun x H' => x = V.int z /\ H' = H) (.int w) (H ++ [ar.list (D.map bE)]) := fun D z w e => (uG (Q := fun x H' => x = V.int z /\ H' = H) rfl).mpr ⟨congrArg V.int e, rfl⟩
 have s15 : ∀ {d : Bool} {a : M}, decide (a = 0) = d -> bF (H ++ [ar.list (D0.map bE)]) .eq (bE a) (.lst []) = some d := fun h => (z9 _).trans (congrArg some h)
 have sM : ∀ {G : AH} {d : Bool} {a : M}, decide (a = 0) = d -> bF G .eq (bE a) (.lst []) = some d := fun h => (z9 _).trans (congrArg some h)
 refine bD (f := 16) rfl rfl ((jB (n := n + 12) (H := H ++ [ar.list (D0.map bE)]) hl.wide s0).mpr ?_)
 unfold o9
 by_cases c : 15#4 &&& l.m = 0
 ·rw [if_pos c]
  exact ab (sM (decide_eq_true c)) (Vt D0 _ _ rfl)
 ·rw [if_neg c]
  refine ab (sM (decide_eq_false c)) (ab ((hS D0).attr rfl) (fh (hS D0).trl ?_))
  have key : ∀ (Sa : List bW) (pre : List bW) (D : List M) (u v : Option V) (z : Int), D.length = 3 -> st.trail = pre ++ Sa -> (ja l D Sa pre.length : Nat) = z →
    eM (PT (n + 38)).e (bY (PT (n + 38)).x zl) (.names [3, 4]) (some (y.trl, st.trail.map cV)) (((Sa.map cV).zipIdx pre.length).map fun p => V.tup [.int (p.2 : Int), p.1]) [some (au l), some (.ref S), some (.ref H.length), u, v] (H ++ [ar.list (D.map bE)])
     (dn (bY (PT (n + 39)).x [zQ]) (kEnd H fun x H' => x = .int z /\ H' = H)) := by
   intro Sa
   induction Sa with
   | nil =>
    intro pre D u v z hD et hz
    refine And.intro (by simp [bU, (hS D).trl]) (ab ((hS D).attr rfl) (aK (eZ (hS D).trl) (Vt D _ _ ?_)))
    rw [<-hz, aM, et, im]; rfl
   | cons e Sa ih =>
    intro pre D u v z hD et hz
    obtain ⟨ex, eo⟩ := vW _ _ t.tr e (by rw [et]; exact be _ aL)
    have Zc : e.lit.x = e.x := by
     have := t.tr; rw [et, sP] at this; exact this.2.2.2.2.1
    have Yt := sb D e.lit.x (by rw [hD]; exact eo.1)
    rw [Zc] at Yt
    have si : gL (H ++ [ar.list (D.map bE)]) (.ref H.length) (.int (e.x : Nat)) (bE (D.getD e.x 0 &&& e.lit.m)) = some (H ++ [ar.list ((D.set e.x (D.getD e.x 0 &&& e.lit.m)).map bE)]) :=
     (n9 (hh D) (by rw [aM, hD]; exact ex)).trans (by rw [zi, kq])
    have sb2 := sb (D.set e.x (D.getD e.x 0 &&& e.lit.m)) l.x (by rw [mZ, hD]; exact hl.1)
    have Xg : cf (H ++ [ar.list (D.map bE)]) (.ref H.length) (.int (e.lit.x : Nat)) = some (bE (D.getD e.x 0)) := by rw [Zc]; exact Yt
    rw [show ja l D (e :: Sa) pre.length = if (D.set e.x (D.getD e.x 0 &&& e.lit.m)).getD l.x 0 &&& l.m = 0 then pre.length else ja l (D.set e.x (D.getD e.x 0 &&& e.lit.m)) Sa (pre.length + 1) from rfl] at hz
    refine And.intro (by simp [bU, (hS D).trl]) (ab rfl (ab (AM e) ((jB (n := n + 12) eo.wide Xg).mpr (ab (p6 e) (ab si ((jB (n := n + 11) hl.wide sb2).mpr ?_))))))
    by_cases q : (D.set e.x (D.getD e.x 0 &&& e.lit.m)).getD l.x 0 &&& l.m = 0
    ·rw [if_pos q] at hz
     exact ab (sM (decide_eq_true q)) (Vt _ _ _ hz)
    ·rw [if_neg q] at hz
     have i1 := fun u v => ih (pre ++ [e]) (D.set e.x (D.getD e.x 0 &&& e.lit.m)) u v z (by rw [mZ, hD]) (by rw [et, fL]; rfl)
     rw [dg] at i1
     exact ab (sM (decide_eq_false q)) (i1 _ _ hz)
  exact key st.trail [] D0 none none _ rfl rfl rfl
end
end
section
noncomputable def cJ (c : List aj) : V := .tup (c.map au)
theorem v5 (a b : List aj) : eqv (.lst (a.map au)) (.lst (b.map au)) = some (decide (a = b)) := by
 have o : ∀ c : List aj, aI 8 (.lst (c.map au)) = true := fun c => by
  rw [sh, bJ]; intro v hv; obtain ⟨l, _, rfl⟩ := bg.mp hv; exact Bz 6 l
 show (if (aI 8 _ && aI 8 _) = true then some (decide _) else none) = _
 rw [o, o]
 have : (V.lst (a.map au) = V.lst (b.map au)) ↔ a = b := by
  constructor
  ·intro h; simp only [V.lst.injEq] at h
   exact (xS fun x y q => Fm.mp q).mp h
  ·rintro rfl; rfl
 simp [this]
theorem Gp (a : List aj) : eqv (.lst (a.map au)) (.lst []) = some (decide (a = [])) := v5 a []
theorem sD {H : AH} {A : List aj} {d : Bool} (h : decide (A = []) = d) : bF H .eq (.lst (A.map au)) (.lst []) = some d := (Gp A).trans (congrArg some h)
theorem pf {H : AH} {A : List aj} {d : Bool} (h : decide (A = []) = d) : bF H .ne (.lst (A.map au)) (.lst []) = some (!d) := congrArg (kn (!·)) (sD (H := H) h)
theorem pE {H : AH} {a b : M} {d : Bool} (h : decide (a = b) = d) : bF H .ne (bE a) (bE b) = some (!d) := congrArg (kn (!·)) ((we a b).trans (congrArg some h))
theorem cMe {H : AH} {a b : M} {d : Bool} (h : decide (a = b) = d) : bF H .eq (bE a) (bE b) = some d := (we a b).trans (congrArg some h)
theorem Ft (x : Int) (l : List Int) : gT (.int x) (l.map .int) = some (decide (x ∈ l)) := by
 have h2 : (l.map V.int).all (aI 8) = true := by
  rw [DC, bJ]; intro x _; rfl
 unfold gT
 rw [h2]
 have h1 : aI 8 (.int x) = true := rfl
 rw [h1]
 have : V.int x ∈ l.map V.int ↔ x ∈ l := by rw [bg]; exact ⟨fun ⟨a, ha, e⟩ => by cases e; exact ha, fun h => ⟨x, h, rfl⟩⟩
 simp [this]
section
variable {n : Nat} {H : AH} {S B : Nat} {y : aO} {st : St} {b : Bk} {Q : V -> AH -> Prop}
theorem yY {G : AH} {k a : Nat} {c : List aj} {D : List M} (hD : D.length = 3) (hb : aH G B b) (hk : b.cl[k]? = some (a, c)) (h4 : c.length <= 4) (ok : ∀ l ∈ c, l.ok) {p o : Nat} {lp lo : aj} (hp : c[p]? = some lp) (ho : c[o]? = some lo)
  (h : fl D lp -> (∀ l ∈ c.drop 2, fl D l) /\ tr D lo) {x0 x1 x2 x4 x5 x7 u0 : Option V} {Qx : Fl -> Loc -> AH -> Prop}
  (q : ∀ u, Qx .next [x0, x1, x2, some (cg D), x4, x5, some (.ref a), x7, some (.int p), some (.int o), u] G) :
  bN (n + 40) ym [x0, x1, x2, some (cg D), x4, x5, some (.ref a), x7, some (.int p), some (.int o), u0] G Qx := by
 have WL := ok lp (aT hp)
 have Xo := ok lo (aT ho)
 have sl : ∀ l : aj, l.ok -> cf G (cg D) (.int (l.x : Nat)) = some (bE (D.getD l.x 0)) := fun l hl => sr (by rw [hD]; exact hl.1)
 have ha := hb.cla hk
 refine ji (ab (hb.lit hk hp) ((jB (n := n + 13) WL.wide (sl lp WL)).mpr ?_))
 by_cases e : D.getD lp.x 0 &&& lp.m = 0
 ·obtain ⟨h1, h2⟩ := h e
  have e1 : D.getD lo.x 0 &&& lo.m = D.getD lo.x 0 := h2
  have f0 : (c.drop 2).filter (fun l => !decide (D.getD l.x 0 &&& l.m = 0)) = [] :=
   ui.mpr fun l hl => by rw [decide_eq_true (show D.getD l.x 0 &&& l.m = 0 from h1 l hl)]; decide
  refine ab (cMe (b := 0) (decide_eq_true e)) (ab (congrArg eB ha) (ab rfl (ab rfl (And.intro ⟨rfl, ?_⟩ (iB (n := n + 37) (gI au (fun l => !decide (D.getD l.x 0 &&& l.m = 0)) au (fun q => ∃ x z, q = [x0, x1, x2, some (cg D), x4, x5, some (.ref a), x7, some (.int p), some (.int o), u0, x, z]) rfl (c.drop 2) DE.symm ⟨_, _, rfl⟩ ?_ ?_))))))
  ·show (List.drop 2 (c.map au)).length < 4096
   rw [mX, aM]; exact cL (mI _ _) (n3 h4 rfl)
  ·rintro l hl loc ⟨x, z, rfl⟩
   have Tx := ok l (xT hl)
   exact ⟨_, rfl, ⟨_, _, rfl⟩, iI ((jB (n := n + 11) Tx.wide (sl l Tx)).mpr (ab (pE (b := 0) rfl) (kI (P := fun x => x = (!decide (D.getD l.x 0 &&& l.m = 0)) /\ G = G) ⟨rfl, rfl⟩))), fun u' => hV ⟨rfl, rfl⟩⟩
  ·rw [f0]
   exact ab (pf (A := []) rfl) (ab (hb.lit hk ho) ((jB (n := n + 11) Xo.wide (sl lo Xo)).mpr (ab (hb.lit hk ho) (ab (fG _) (ab (sl lo Xo) (ab (pE (decide_eq_true e1)) (q _)))))))
 ·exact ab (cMe (b := 0) (decide_eq_false e)) (q u0)
end
end
section
section
variable {n : Nat} {H : AH} {S B : Nat} {y : aO} {st : St} {b : Bk} {Q : V -> AH -> Prop}
theorem uS {a : T KX} {x : PX} {loc : Loc} {g : T KX} {Q : KX} (h : g loc H Q) : kBool H (kXi a (bY x []) loc (dn g Q)) false := h
theorem HC {G : Prop} {c : List aj} (h : 2 <= c.length) (k : ∀ l0 l1 r, c = l0 :: l1 :: r -> G) : G :=
 match c, h, k with
 | l0 :: l1 :: r, _, k => k l0 l1 r rfl
theorem Ge (w : W2 H S y st B b) {cs : List (List aj)} (Tz : ∀ c ∈ cs, jK c) (ho : gz cs) (go : Good st b cs) (hw : ∀ p ∈ b.cl, Wt st.doms p.2) {k : Nat} {c0 : List aj} (UK : cs[k]? = some c0) {G : AH} (hb : aH G B b) {u6 u7 u8 u9 T1 : Option V} {Qx : KX}
  (q : ∀ o u6 u7 u8 u9 T1, Qx .next [some (.ref S), some (.ref B), some (.lst (cs.map cJ)), some (cg st.doms), some (.int k), some (cJ c0), u6, u7, u8, u9, T1] (G ++ [o])) :
  bY (PT (n + 58)).x uC [some (.ref S), some (.ref B), some (.lst (cs.map cJ)), some (cg st.doms), some (.int k), some (cJ c0), u6, u7, u8, u9, T1] G Qx := by
 have hD := go.t.len
 have Uh : k < cs.length := (bG.mp UK).1
 have SZ : k < b.cl.length := by rw [go.bo.len]; exact Uh
 obtain ⟨a, c, hk⟩ : ∃ a c, b.cl[k]? = some (a, c) := ⟨_, _, bR SZ⟩
 obtain ⟨c0', e0, pm⟩ := go.bo.pm _ a c hk
 rw [UK] at e0
 have clk := Tz c0 (aT UK)
 have srt : cq (c.map au) = c0.map au := by
  rw [MR (fun v hv => by obtain ⟨l, _, rfl⟩ := bg.mp hv; exact qt l) ((aC e0 ▸ pm).map au)]; exact clk.srt
 obtain ⟨c2, c4, ok, _⟩ := go.bo.cls ho hk
 have wk := go.bo.wk _ a c hk Uh
 have wt := hw _ (aT hk)
 refine HC c2 fun l0 l1 r ec => ?_
 subst ec
 have ha := hb.cla hk
 have bs : dq G .sorted [.ref a] = some (.lst (c0.map au), G) := by
  rw [bi_sref, ha, <-srt]; exact if_pos (yF c4)
 have Yl : bF G .ne (.lst (c0.map au)) (.lst (c0.map au)) = some false := congrArg (kn (!·)) ((v5 c0 c0).trans (congrArg some (decide_eq_true rfl)))
 refine ab (hb.attr rfl) (ab (hb.sub8 hk) (aK bs (aK rfl (ab Yl (uS (ab (hb.lit0 hk rfl) (ab (fG _) (ab (hb.lit1 hk rfl) (ab (fG _) ?_)))))))))
 have hF : ag (G ++ [ar.list [.int l0.x, .int l1.x]]) G.length = some (.list ([(l0.x : Int), (l1.x : Int)].map .int)) := iG _ _
 have VD := hb.app [ar.list [.int l0.x, .int l1.x]]
 refine And.intro (by decide) (And.intro ⟨rfl, by decide⟩ (iB (n := n + 55) (gI az (fun u' => false) az (fun q => ∃ x z, q = [some (.ref S), some (.ref B), some (.lst (cs.map cJ)), some (cg st.doms), some (.int k), some (cJ c0), some (.ref a), some (.ref G.length), u8, u9, T1, x, z]) rfl (bQ 3) rfl ⟨_, _, rfl⟩ ?_ ?_)))
 ·rintro x hx loc ⟨x', z, rfl⟩
  have hd : gQ (G ++ [ar.list [.int l0.x, .int l1.x]]) b.wat (b.wa.map eE) 5 [.int x, .lst []] = some (((bS b.wa x).elim (.lst []) fun p => .ref p.1), G ++ [ar.list [.int l0.x, .int l1.x]]) := by
   rw [BR, pG]; cases bS b.wa x <;> rfl
  have c1 : bF (G ++ [ar.list [.int l0.x, .int l1.x]]) .isin (.int k) ((bS b.wa x).elim (.lst []) fun p => .ref p.1) = some (decide (k ∈ wl b.wa x)) := by
   have hs : bK (G ++ [ar.list [.int l0.x, .int l1.x]]) ((bS b.wa x).elim (.lst []) fun p => .ref p.1) = some ((wl b.wa x).map az) := by
    unfold wl
    rcases hw : bS b.wa x with _ | p
    ·rfl
    ·exact congrArg eB (VD.waL _ (mr hw))
   show (bK _ _).bind _ = _
   rw [hs]; exact zZ _ _
  have c2 : bF (G ++ [ar.list [.int l0.x, .int l1.x]]) .isin (.int x) (.ref G.length) = some (decide ((x : Int) ∈ [(l0.x : Int), (l1.x : Int)])) := by
   show (eB (ag _ _)).bind _ = _
   rw [hF]; exact Ft _ _
  have e : decide (k ∈ wl b.wa x) = decide ((x : Int) ∈ [(l0.x : Int), (l1.x : Int)]) := decide_eq_decide.mpr (wk x)
  rw [e] at c1
  have c3 : bF (G ++ [ar.list [.int l0.x, .int l1.x]]) .ne (.bool (decide ((x : Int) ∈ [(l0.x : Int), (l1.x : Int)]))) (.bool (decide ((x : Int) ∈ [(l0.x : Int), (l1.x : Int)]))) = some false := by
   show some (!(_ == _)) = _
   rw [beq_self_eq_true]; rfl
  exact ⟨_, rfl, ⟨_, _, rfl⟩, iI (ab (VD.attr rfl) (eO VD.wat (vQ VD.wat (aK hd (ab c1 (ab c2 (ab c3 ⟨rfl, rfl⟩))))))), fun e => nomatch e⟩
 ·refine ab (pf (A := []) rfl) (uS (And.intro rfl (ab rfl (jj (n := n + 57) (yY (n := n + 17) (p := 0) (o := 1) hD VD hk c4 ok rfl rfl wt.1 fun v => ?_)))))
  exact And.intro rfl (ab rfl (jj (n := n + 57) (yY (n := n + 17) (p := 1) (o := 0) hD VD hk c4 ok rfl rfl wt.2 fun v => And.intro rfl (q _ _ _ _ _ _))))
theorem zK (w : W2 H S y st B b) {cs : List (List aj)} (Tz : ∀ c ∈ cs, jK c) (ho : gz cs) (go : Good st b cs) (hw : ∀ p ∈ b.cl, Wt st.doms p.2) (SM : cs ≠ []) :
  WC (n + 60) 17 [.ref S, .ref B, .lst (cs.map cJ)] H Q ↔ Q (.bool true) H := by
 refine d7 ?_
 have key : ∀ (Sa pre : List (List aj)) (X : AH) (u4 u5 u6 u7 u8 u9 T1 : Option V), cs = pre ++ Sa →
   eM (PT (n + 58)).e (bY (PT (n + 58)).x uC) (.names [4, 5]) none (((Sa.map cJ).zipIdx pre.length).map fun p => V.tup [.int (p.2 : Int), p.1]) [some (.ref S), some (.ref B), some (.lst (cs.map cJ)), some (cg st.doms), u4, u5, u6, u7, u8, u9, T1] (H ++ X)
    (dn (bY (PT (n + 59)).x [A0]) (kEnd H fun x H' => x = .bool true /\ H' = H)) := by
  intro Sa
  induction Sa with
  | nil => exact fun pre X u4 u5 u6 u7 u8 u9 T1 et => And.intro rfl ((uG (Q := fun x H' => x = .bool true /\ H' = H) (v := .bool true) rfl).mpr ⟨rfl, rfl⟩)
  | cons c0 Sa ih =>
   intro pre X u4 u5 u6 u7 u8 u9 T1 et
   have i1 := fun X u4 u5 u6 u7 u8 u9 T1 => ih (pre ++ [c0]) X u4 u5 u6 u7 u8 u9 T1 (by rw [et, fL]; rfl)
   rw [dg] at i1
   refine And.intro rfl (ab rfl (Ge w Tz ho go hw (by rw [et]; simp) (w.ba.app X) fun o u6 u7 u8 u9 T1 => ?_))
   rw [fL]
   exact i1 _ _ _ _ _ _ _ _
 have k0 := key cs [] [] none none none none none none none rfl
 rw [im] at k0
 refine bD (f := 17) rfl rfl ((vc (n := n + 17) w.sa go.t).mpr (And.intro ?_ k0))
 cases cs with
 | nil => exact absurd rfl SM
 | cons c r => rfl
end
end
section
noncomputable def nf (D : List M) (l : aj) : Bool := !decide (D.getD l.x 0 &&& l.m = 0)
noncomputable def qd (D : List M) (c : List aj) : List aj := c.filter (nf D)
theorem jD {st : St} (t : bf st) {l : aj} (h : l.ok) : nf st.doms l = true ↔ ¬ sd st l = -1 := by
 rw [k8 t h]; unfold nf fl; simp
theorem Ig {st st' : St} (t : bf st) {c p c' : List aj} {r : Bool} (ok : ∀ l ∈ c, l.ok) (hp : p.Perm c) (v : gS st p r st' c') :
  (r = true /\ st' = st /\ qd st.doms c ≠ [] /\ (∀ l, qd st.doms c = [l] -> tr st.doms l)) ∨
  (r = true /\ ∃ l why, qd st.doms c = [l] /\ l.ok /\ sd st l = 0 /\ st' = dL st l why (.int (-1))) ∨
  (r = false /\ qd st.doms c = [] /\ ∃ cl : List V, cl.length = c.length /\ st' = oy st cl) := by
 have pc : c'.Perm c := v.1.pm.trans hp
 have T6 : ∀ l ∈ c', l.ok := fun l hl => ok l (pc.mem_iff.mp hl)
 have pa : (c'.filter (nf st.doms)).Perm (qd st.doms c) := pc.filter _
 obtain ⟨_, ⟨r1, e1, _, l0, l1, o, rfl, h⟩ | ⟨r1, l, o, why, pm, hl, h0, hx, e1, _⟩ | ⟨r1, hx, cl, SO, e1⟩⟩ := v
 ·refine .inl ⟨r1, e1, ?_, ?_⟩
  ·intro e
   rw [e] at pa
   have := pa.length_eq
   have z : ∀ l ∈ l0 :: l1 :: o, nf st.doms l = false := by
    have := ik this
    rw [ui] at this
    intro l hl; simpa using this l hl
   have z0 := z l0 (by simp); have z1 := z l1 (by simp)
   have y0 : sd st l0 = -1 := Rr fun q => by rw [(jD t (T6 l0 (by simp))).mpr q] at z0; cases z0
   have y1 : sd st l1 = -1 := Rr fun q => by rw [(jD t (T6 l1 (by simp))).mpr q] at z1; cases z1
   trivial
  ·intro l e
   rw [e] at pa
   have lp := pa.length_eq
   rcases h with h | h | ⟨h, h'⟩
   ·have n0 := (jD t (T6 l0 (by simp))).mpr (by rw [h]; decide)
    have : l0 ∈ [l] := pa.mem_iff.mp (by simp [n0])
    simp at this; subst this; exact qm.mp h
   ·have n0 := (jD t (T6 l1 (by simp))).mpr (by rw [h]; decide)
    have : l1 ∈ [l] := pa.mem_iff.mp (by simp [n0])
    simp at this; subst this; exact qm.mp h
   ·have n0 := (jD t (T6 l0 (by simp))).mpr (by rw [h]; decide)
    have n1 := (jD t (T6 l1 (by simp))).mpr (by rw [h']; decide)
    simp [tR, n0, n1] at lp
 ·refine .inr (.inl ⟨r1, l, why, ?_, hl, h0, e1⟩)
  have n0 := (jD t hl).mpr (by rw [h0]; decide)
  have f0 : o.filter (nf st.doms) = [] := by
   rw [ui]; intro x Vc
   have := hx x Vc
   intro q; exact (jD t (T6 x (pm.mem_iff.mpr (by simp [Vc])))).mp q this
  have := (pm.filter (nf st.doms)).symm.trans pa
  rw [tR, if_pos n0, f0] at this
  exact List.perm_singleton.mp this.symm
 ·refine .inr (.inr ⟨r1, ?_, cl, by rw [SO, pc.length_eq], e1⟩)
  have : c'.filter (nf st.doms) = [] := by
   rw [ui]; intro x Vc q
   exact (jD t (T6 x Vc)).mp q (hx x Vc)
  rw [this] at pa
  exact List.perm_nil.mp pa.symm
def Off (L : List Nat) (H : AH) (S : Nat) (y : aO) (B : Nat) (b : Bk) : Prop := ∀ a ∈ L, a < H.length /\ a ∉ y.foot S /\ a ∉ b.foot B
theorem Off.go {L : List Nat} {H H' : AH} {S B : Nat} {y y' : aO} {st' : St} {b b' : Bk} (o : Off L H S y B b) (g : bP H S y B b H' y' st' b') : Off L H' S y' B b' /\ ∀ a ∈ L, ag H' a = ag H a :=
 ⟨fun a ha => (g.out (o a ha).1 (o a ha).2.1 (o a ha).2.2).2, fun a ha => (g.out (o a ha).1 (o a ha).2.1 (o a ha).2.2).1⟩
theorem bf.push {st : St} (t : bf st) : bf { st with marks := st.marks ++ [st.trail.length] } := by
 refine ⟨t.fi, t.tr, t.dm, t.nk, t.nb, ?_, ?_⟩
 ·intro k hk
  rcases aW.mp hk with h | h
  ·exact t.ma k h
  ·show k <= st.trail.length
   simp at h; trivial
 ·show (st.marks ++ [st.trail.length]).Pairwise _
  rw [List.pairwise_append]
  exact ⟨t.ms, by simp, fun a ha c hc => by simp at hc; subst hc; exact t.ma a ha⟩
theorem DP {st Sv : St} (t : bf st) (t2 : bf Sv) (hm : Sv.marks = st.marks ++ [st.trail.length]) (ht : ∃ X, Sv.trail = st.trail ++ X) (hs : Sv.firsts = st.firsts) : fT Sv 1 = { st with news := [], failed := false, clash := [] } := by
 obtain ⟨X, ht⟩ := ht
 have e1 : Sv.marks.getD (Sv.marks.length - 1) 0 = st.trail.length := by rw [hm]; simp
 have u := yw t2.tr st.trail.length
 rw [<-t2.dm] at u
 have e2 : Sv.trail.take st.trail.length = st.trail := by rw [ht]; simp
 have e3 : decide ((0 : M) ∈ Sv.firsts) = false := by rw [t2.fi]; decide
 unfold fT
 rw [e1, u.1, e2, e3, hm, <-t.dm]
 simp [t.fi, t2.fi]
theorem Mx (a : List M) : eqv (cg a) (cg a) = some true := by
 have o : aI 8 (cg a) = true := by
  unfold cg
  rw [sh, bJ]; intro v hv; obtain ⟨l, _, rfl⟩ := bg.mp hv; exact vE 5 l
 show (if (aI 8 _ && aI 8 _) = true then some (decide _) else none) = _
 rw [o]; simp
end
section
section
variable {n : Nat} {H : AH} {S B : Nat} {y : aO} {st : St} {b : Bk} {Q : V -> AH -> Prop}
theorem yk (N : Nat) : c8 [] N := ⟨by simp, by simp, fun z => by simp [wl, jv, jA], fun z k h => by simp [wl, jv, jA] at h⟩
theorem rg6 {L a : Nat} (h : a ∈ Bk.foot L (dK L)) : L <= a /\ a < L + 6 := by
 have h : a ∈ [L, L + 1, L + 2, L + 3, L + 4, L + 5] := h
 have r : ∀ k, k < 6 -> L <= L + k /\ L + k < L + 6 := fun k hk => ⟨j4 _ _, oB hk _⟩
 exact (rd.mpr ⟨r 0 (by decide), rd.mpr ⟨r 1 (by decide), rd.mpr ⟨r 2 (by decide), rd.mpr ⟨r 3 (by decide), rd.mpr ⟨r 4 (by decide), rd.mpr ⟨r 5 (by decide), fun u' h => nomatch h⟩⟩⟩⟩⟩⟩ : ∀ a ∈ [L, L + 1, L + 2, L + 3, L + 4, L + 5], L <= a /\ a < L + 6) a h
theorem DR (w : W2 H S y st B b) (t : bf st) {F : Nat} {cells : List Int} {R7 : Nat} (hF : ag H F = some (bI cells R7)) (f1 : F ∉ y.foot S) (f2 : F ∉ b.foot B) (hc : cells.length <= 64) (hs : R7 < 700) {Qx : Fl -> Loc -> AH -> Prop}
  (q : ∀ H' B' b' c p a s', jK c -> p.Perm c -> b'.cl = [(a, p)] -> c8 b'.wa 1 -> (∀ z, 0 ∈ wl b'.wa z ↔ z ∈ fr p) -> R7 < s' -> s' <= R7 + 13 -> W2 H' S y st B' b' -> aH H' B b -> ag H' F = some (bI cells s') -> Off (F :: b.foot B) H' S y B' b' →
   bN (n + 129) [wq, wC, v8, oe, n7, hU, hW] [some (.ref F), some (.ref S), some (.ref B'), some (cJ c), some (cg st.doms), some (.lst (p.map au)), none, none, none, none] H' Qx) :
  bN (n + 129) b18 [some (.ref F), some (.ref S), none, none, none, none, none, none, none, none] H Qx := by
 have lF := cR hF
 refine ji (s_e (n := n + 128) (loc := []) (Ci (n := n + 108) fun Y1 => ?_))
 generalize hX : ([.inst 0 (H.length + 1), .attrs (gk (dK H.length)), .list [], .list [], .list [], .dict []] : List ar) = X at Y1 ⊢
 have hX6 : (H ++ X).length = H.length + 6 := by rw [dg, <-hX]; rfl
 have Y6 : ag (H ++ X) F = some (bI cells R7) := (eY lF).trans hF
 refine An (n := n + 87) Y6 hc (n1 hs rfl) fun c s' co s1 s2 => ?_
 have fB : ∀ a ∈ Bk.foot H.length (dK H.length), H.length <= a /\ a < H.length + 6 := fun a ha => rg6 ha
 have fS : ∀ a ∈ y.foot S, a < H.length := w.sa.lt
 have hb1 : aH ((H ++ X).set F (bI cells s')) H.length (dK H.length) := Y1.frame fun a ha => dI fun e => eR _ (cH lF (e ▸ (fB a ha).1))
 have Wh : aB ((H ++ X).set F (bI cells s')) S y st := (w.sa.frame fun a ha => eY (w.sa.lt a ha)).frame fun a ha => dI fun e => f1 (e ▸ ha)
 have YS : aH ((H ++ X).set F (bI cells s')) B b := (w.ba.app X).frame fun a ha => dI fun e => f2 (e ▸ ha)
 have Vp : ag ((H ++ X).set F (bI cells s')) F = some (bI cells s') := fU Y6
 have w1 : W2 ((H ++ X).set F (bI cells s')) S y st H.length (dK H.length) := ⟨Wh, hb1, fun a ha hb => eR _ (cH (fS a ha) (fB a hb).1)⟩
 have T7 : Off (F :: b.foot B) ((H ++ X).set F (bI cells s')) S y H.length (dK H.length) := by
  have up : ∀ {a}, a < H.length -> a < ((H ++ X).set F (bI cells s')).length /\ a ∉ Bk.foot H.length (dK H.length) := fun {a} h => ⟨by rw [mZ, hX6]; exact Nat.lt_add_right 6 h, fun m => eR _ (cH h (fB _ m).1)⟩
  intro a ha
  rcases aP.mp ha with rfl | ha
  ·exact ⟨(up lF).1, f1, (up lF).2⟩
  ·have := w.ba.lt a ha
   exact ⟨(up this).1, fun m => w.dj a m ha, (up this).2⟩
 generalize (H ++ X).set F (bI cells s') = H1 at hb1 Wh YS Vp w1 T7 ⊢
 have e0 : (dK H.length).cl.length = 0 := rfl
 have W8 : (dK H.length).wa = [] := rfl
 have Za : (dK H.length).fresh = [] := rfl
 generalize dK H.length = k0 at hb1 w1 T7 e0 W8 Za ⊢
 have Ze : k0.cl = [] := ik e0
 refine (vc (n := n + 87) w1.sa t).mpr (w1.ba.mm tm_0_6 (AC (n := n + 106) w1.ba co.two (n3 co.four rfl) (by rw [e0]; decide) (by rw [Za]; decide) fun H2 a g2 => ab (sE (by rw [e0]; rfl)) ?_))
 have VG := w1.book g2
 obtain ⟨U9, k2⟩ := T7.go VG
 have w2 := VG.w
 have Ta : (k0.cl ++ [(a, c)])[0]? = some (a, c) := by rw [Ze]; rfl
 refine w2.ba.mm tm_0_9 (z7 (n := n + 27) (N := 1) (k := 0) w2 t Ta co.two co.four co.ok (by show c8 k0.wa 1; rw [W8]; exact yk 1) (by decide) (by decide) (fun z => by show 0 ∉ wl k0.wa z; rw [W8]; exact gb) fun H3 a' p Sn p1 p2 g3 i3 e3 e4 => ?_)
 have Y9 := w2.book g3
 obtain ⟨VV, k3⟩ := U9.go Y9
 have w3 := Y9.w
 have hm3 : aH H3 B b := YS.frame fun a ha => (k3 a (aQ _ ha)).trans (k2 a (aQ _ ha))
 have hF3 := ((k3 F aL).trans (k2 F aL)).trans Vp
 have SO : (k0.cl ++ [(a, c)]).set 0 (a', p) = [(a', p)] := by rw [Ze]; rfl
 rw [SO] at w3 VV
 have YW : ([(a', p)] : List (Nat × List aj))[0]? = some (a', p) := rfl
 have lc : ∀ (f : aj -> V), (c.map f).length < 4096 := fun f => by rw [aM]; exact n3 co.four rfl
 have bs : dq H3 .sorted [.lst (c.map (rk st))] = some (.lst (p.map (rk st)), H3) := (if_pos (AI st co.four)).trans (by rw [p2])
 have ha3 := w3.ba.cla YW
 have Yl : bF H3 .ne (.ref a') (.lst (p.map au)) = some false := by
  show (eqv (nU a' (eB (ag H3 a'))) _).map _ = _
  rw [ha3]
  exact congrArg (kn (!·)) ((v5 p p).trans (congrArg some (decide_eq_true rfl)))
 refine And.intro ⟨rfl, lc au⟩ (pw (n := n + 125) au (rk st) (fun q => ∃ x z, q = [some (.ref F), some (.ref S), some (.ref H.length), some (.tup (c.map au)), some (cg st.doms), none, none, none, none, none, x, z]) rfl c rfl ⟨_, _, rfl⟩ ?_ ?_)
 ·rintro l hl loc ⟨x, z, rfl⟩
  exact ⟨_, rfl, ⟨_, _, rfl⟩, (Jc (n := n + 82) w3.sa t (co.ok l hl)).mpr ⟨rfl, rfl⟩⟩
 refine aK bs (And.intro ⟨rfl, by rw [aM, p1.length_eq]; exact n3 co.four rfl⟩ (pw (n := n + 127) (rk st) au (fun q => ∃ x z u, q = [some (.ref F), some (.ref S), some (.ref H.length), some (.tup (c.map au)), some (cg st.doms), none, none, none, none, none, x, z, u]) rfl p rfl ⟨_, _, _, rfl⟩ ?_ ?_))
 ·rintro l hl loc ⟨x, z, u, rfl⟩
  exact ⟨_, rfl, ⟨_, _, _, rfl⟩, And.intro rfl rfl⟩
 refine ab (w3.ba.attr rfl) (ab (w3.ba.sub8 YW) (ab Yl (uS ?_)))
 exact jj (n := n + 129) (q H3 H.length _ c p a' s' co p1 rfl i3 e3 s1 s2 w3 hm3 hF3 VV)
end
end
section
theorem OH (l : List V) (v : V) : fE (l ++ [v]) (-1) = some v := by
 unfold fE
 rw [if_neg (by decide)]
 have e : (-1 : Int) + ((l ++ [v]).length : Int) = l.length := by rw [dg]; simp; trivial
 rw [e, if_pos (by trivial)]
 simp
section
variable {n : Nat} {H : AH} {S B : Nat} {y : aO} {st : St} {b : Bk} {Q : V -> AH -> Prop}
noncomputable def jQ (st : St) : St := { st with news := [], failed := false, clash := [] }
theorem Bx {st : St} (t : bf st) : ∀ e ∈ st.trail, e.x < 3 /\ e.lit.ok := vW _ _ t.tr
theorem Kv {SG : St} (w : W2 H S y SG B b) (t : bf st) (t3 : bf SG) (hm : SG.marks = st.marks ++ [st.trail.length]) (ht : ∃ X, SG.trail = st.trail ++ X) {L : List Nat} (VW : Off L H S y B b) {x0 x2 x3 x5 x6 x7 x8 : Option V} {Qx : Fl -> Loc -> AH -> Prop}
  (q : ∀ loc H' y', aB H' S y' (jQ st) -> (∀ a ∈ L, ag H' a = ag H a /\ a < H'.length /\ a ∉ y'.foot S) -> Qx (.ret (.bool true)) loc H') :
  bN (n + 129) [hU, hW] [x0, some (.ref S), x2, x3, some (cg st.doms), x5, x6, x7, x8, some (.bool true)] H Qx := by
 have p1 := DP t t3 hm ht (t3.fi.trans t.fi.symm)
 have Uf : SG.marks.length = st.marks.length + 1 := by rw [hm]; simp
 have e1 : SG.marks.getD (SG.marks.length - 1) 0 = st.trail.length := by rw [hm]; simp
 have Vk : st.trail.length <= SG.trail.length := by obtain ⟨X, e⟩ := ht; rw [e]; simp
 have tl3 := t3.tl
 simp only [WXs_cons, WXs_nil]
 simp? only [hU, eW, fC, d9, exists_eq_left', V.ref.injEq, w.sa.wm]
 refine Cr (n := n + 77) (k := 1) w.sa (by trivial) (by trivial) (by rw [e1]; exact Vk) (by trivial) (fun e he => by rw [t3.len]; exact (Bx t3 e he).1) fun H' g => ?_
 rw [p1] at g
 obtain ⟨y', g'⟩ := w.store g
 have t' : bf (jQ st) := ⟨t.fi, t.tr, t.dm, by simp [jQ], by simp [jQ], t.ma, t.ms⟩
 simp? only [hW, eW, fC, d9, exists_eq_left', if_true]
 rw [vc (n := n + 85) g'.w.sa t']
 simp? only [eW, fC, d9, exists_eq_left']
 have el : ∀ H : AH, eqv (du H (cg st.doms)) (du H (cg st.doms)) = some true := fun H => Mx _
 rw [el]
 simp only [isS_some, isB_bool]
 obtain ⟨o1, o2⟩ := VW.go g'
 exact q _ H' y' g'.w.sa fun a ha => ⟨o2 a ha, (o1 a ha).1, (o1 a ha).2.1⟩
theorem FB {H : AH} {l : aj} : bF H .eq (au l) (au l) = some true := by
 show (if (aI 8 (au l) && aI 8 (au l)) = true then some (decide (au l = au l)) else none) = _
 rw [Bz 7 l]; exact congrArg some (decide_eq_true rfl)
section
variable {x0 x5 x9 : Option V} {c : List aj} {D : List M} {m : Nat} {tr : List V} {Qx : Fl -> Loc -> AH -> Prop}
theorem Ji {A : List aj} (h : aB H S y st) (fa : st.failed = false) (hm : st.trail.length = m) (hD : D.length = 3) (ZE : ∀ l ∈ A, l.ok) (ne : A ≠ []) (h1 : ∀ l, A = [l] -> D.getD l.x 0 &&& l.m = D.getD l.x 0)
  (Sk : ∀ x6 x7 x8, bN (n + 129) [hU, hW] [x0, some (.ref S), some (.ref B), some (cJ c), some (cg D), x5, x6, x7, x8, some (.bool true)] H Qx) :
  bN (n + 129) [oe, n7, hU, hW] [x0, some (.ref S), some (.ref B), some (cJ c), some (cg D), x5, some (.lst (A.map au)), some (.int m), some (.bool true), x9] H Qx := by
 have dA : decide (A = []) = false := decide_eq_false ne
 have f := jj (Sk (some (.lst (A.map au))) (some (.int m)) (some (.bool true)))
 have a6 := h.a6
 rw [fa] at a6
 refine ji (ab (pf dA) (ab rfl (ab (sD dA) (aK rfl ?_))))
 rcases A with _ | ⟨l, _ | ⟨l', r⟩⟩
 ·exact absurd rfl ne
 ·have Tx := ZE l aL
  have sl : cf H (cg D) (.int (l.x : Nat)) = some (bE (D.getD l.x 0)) := sr (by rw [hD]; exact Tx.1)
  exact ab (dP rfl) (ab rfl ((jB (n := n + 100) Tx.wide sl).mpr (ab rfl (ab (fG _) (ab sl (ab (pE (decide_eq_true (h1 l rfl))) (ab h.a2 (aK (eZ h.trl) (ab (dP (by rw [aM, hm])) (ab a6 f))))))))))
 ·exact ab (kO (by simp only [cA, iT]; lia)) (ab h.a2 (aK (eZ h.trl) (ab (dP (by rw [aM, hm])) (ab a6 f))))
theorem Lx {l : aj} {e : bW} {tr : List bW} (h : aB H S y st) (ht : st.trail = tr ++ [e]) (hm : tr.length = m) (hD : D.length = 3) (Tx : l.ok) (h0 : ¬ D.getD l.x 0 &&& l.m = D.getD l.x 0) (he : e.lit = l)
  (Sk : ∀ x6 x7 x8, bN (n + 129) [hU, hW] [x0, some (.ref S), some (.ref B), some (cJ c), some (cg D), x5, x6, x7, x8, some (.bool true)] H Qx) :
  bN (n + 129) [oe, n7, hU, hW] [x0, some (.ref S), some (.ref B), some (cJ c), some (cg D), x5, some (.lst ([l].map au)), some (.int m), some (.bool true), x9] H Qx := by
 subst he
 have f := jj (Sk (some (.lst ([e.lit].map au))) (some (.int m)) (some (.bool true)))
 have sl : cf H (cg D) (.int (e.lit.x : Nat)) = some (bE (D.getD e.lit.x 0)) := sr (by rw [hD]; exact Tx.1)
 have trl := h.trl
 rw [ht, eJ] at trl
 have s1 : cf H (.ref y.trl) (.int (-1)) = some (cV e) := (iD trl).trans (OH _ _)
 have s2 : cf H (cV e) (.int 2) = some (au e.lit) := rfl
 exact ji (ab (pf (A := [e.lit]) rfl) (ab rfl (ab (sD (A := [e.lit]) rfl) (aK rfl (ab (dP rfl) (ab rfl ((jB (n := n + 100) Tx.wide sl).mpr (ab rfl (ab (fG _) (ab sl (ab (pE (decide_eq_false h0)) (ab h.a2 (aK (eZ trl) (aK rfl (ab (dP (by rw [dg, aM, hm]; rfl)) (ab h.a2 (ab s1 (ab s2 (ab rfl (ab FB f))))))))))))))))))))
theorem J3 {cl : List V} (h : aB H S y st) (fa : st.failed = true) (hc : st.clash = cl) (hl : cl.length = c.length)
  (Sk : ∀ x6 x7 x8, bN (n + 129) [hU, hW] [x0, some (.ref S), some (.ref B), some (cJ c), some (cg D), x5, x6, x7, x8, some (.bool true)] H Qx) :
  bN (n + 129) [oe, n7, hU, hW] [x0, some (.ref S), some (.ref B), some (cJ c), some (cg D), x5, some (.lst []), some (.int m), some (.bool false), x9] H Qx := by
 have f := jj (Sk (some (.lst [])) (some (.int m)) (some (.bool false)))
 have a6 := h.a6
 have a7 := h.a7
 rw [fa] at a6
 rw [hc] at a7
 exact ji (ab (pf (A := []) rfl) (ab rfl (ab (sD (A := []) rfl) (ab a6 (ab a7 (aK rfl (aK rfl (ab (dP (by rw [aM, hl])) f))))))))
end
theorem LM (w : W2 H S y st B b) (t : bf st) (fa : st.failed = false) (Uf : st.marks.length < 4000) {c p : List aj} {a : Nat} (SO : b.cl = [(a, p)]) (wi : c8 b.wa 1) (wk : ∀ z, 0 ∈ wl b.wa z ↔ z ∈ fr p) (co : jK c) (hp : p.Perm c) {L : List Nat} (VW : Off L H S y B b) {x0 x5 : Option V} {Qx : Fl -> Loc -> AH -> Prop}
  (q : ∀ loc H' y', aB H' S y' (jQ st) -> (∀ a ∈ L, ag H' a = ag H a /\ a < H'.length /\ a ∉ y'.foot S) -> Qx (.ret (.bool true)) loc H') :
  bN (n + 129) [wq, wC, v8, oe, n7, hU, hW] [x0, some (.ref S), some (.ref B), some (cJ c), some (cg st.doms), x5, none, none, none, none] H Qx := by
 have pl := hp.length_eq
 refine ji (w.sa.mm tm_1_24 (Bn (n := n + 115) w.sa (n2 Uf rfl) fun H1 g1 => ?_))
 obtain ⟨y1, g1⟩ := w.store g1
 obtain ⟨T7, k1⟩ := VW.go g1
 have w1 := g1.w
 have t1 := t.push
 have hk : b.cl[0]? = some (a, p) := by rw [SO]; rfl
 refine And.intro ⟨rfl, by rw [aM]; exact n3 co.four rfl⟩ (iB (n := n + 127) (gI au (nf st.doms) au (fun q => ∃ x z, q = [x0, some (.ref S), some (.ref B), some (.tup (c.map au)), some (cg st.doms), x5, none, none, none, none, x, z]) rfl c rfl ⟨_, _, rfl⟩ ?_ ?_))
 ·rintro l hl loc ⟨x, z, rfl⟩
  have Tx := co.ok l hl
  exact ⟨_, rfl, ⟨_, _, rfl⟩, iI ((jB (n := n + 101) Tx.wide (sr (by rw [t.len]; exact Tx.1))).mpr (ab (pE (b := 0) rfl) (kI (P := fun x => x = nf st.doms l /\ H1 = H1) ⟨rfl, rfl⟩))), fun u' => hV ⟨rfl, rfl⟩⟩
 refine ab w1.sa.a2 (aK (eZ w1.sa.trl) (w1.ba.mm tm_0_12 (wX (n := n + 47) (N := 1) (k := 0) w1 t1 hk (pl ▸ co.two) (pl ▸ co.four) (fun l hl => co.ok l (hp.mem_iff.mp hl)) wi (by decide) (by decide) wk fun r H2 y2 Sv c' WF vo g2 i2 e3 e4 => ?_)))
 obtain ⟨U9, k2⟩ := T7.go g2
 have Sk : (∃ X, Sv.trail = st.trail ++ X) -> ∀ x6 x7 x8, bN (n + 129) [hU, hW] [x0, some (.ref S), some (.ref B), some (cJ c), some (cg st.doms), x5, x6, x7, x8, some (.bool true)] H2 Qx := fun hX x6 x7 x8 => Kv g2.w t (vo.tok t1) vo.marks hX U9 fun loc H' y' s k => q loc H' y' s fun z hz => ⟨(k z hz).1.trans ((k2 z hz).trans (k1 z hz)), (k z hz).2⟩
 have Xh := g2.w.sa
 rw [aM]
 refine jj (n := n + 129) ?_
 rcases Ig t1 co.ok hp vo with h | h | h
 ·obtain ⟨e1, e2, ne, h1⟩ := h
  subst e1 e2
  exact Ji Xh fa rfl t.len (fun l hl => co.ok l (QC.mp hl).1) ne h1 (Sk ⟨[], (im _).symm⟩)
 ·obtain ⟨e1, l, why, eA, Tx, h0, e2⟩ := h
  subst e1 e2
  rw [show c.filter (nf st.doms) = [l] from eA]
  exact Lx Xh rfl rfl t.len Tx (fun q => absurd ((qm (st := { st with marks := st.marks ++ [st.trail.length] }).mpr q).symm.trans h0) (by decide)) rfl (Sk ⟨_, rfl⟩)
 ·obtain ⟨e1, eA, cl, X0, e2⟩ := h
  subst e1 e2
  rw [show c.filter (nf st.doms) = [] from eA]
  exact J3 Xh rfl rfl X0 (Sk ⟨[], (im _).symm⟩)
end
end
section
structure LS (H : AH) (S : Nat) (y : aO) (st : St) (B : Nat) (b : Bk) (F : Nat) (cells : List Int) (s : Nat) : Prop where
 w : W2 H S y st B b
 f : ag H F = some (bI cells s)
 f1 : F ∉ y.foot S
 f2 : F ∉ b.foot B
section
variable {n : Nat} {H : AH} {S B : Nat} {y : aO} {st : St} {b : Bk} {Q : V -> AH -> Prop} {F : Nat} {cells : List Int} {s : Nat}
theorem LS.feed (l : LS H S y st B b F cells s) (s' : Nat) : LS (H.set F (bI cells s')) S y st B b F cells s' :=
 ⟨⟨l.w.sa.frame fun a ha => dI fun e => l.f1 (e ▸ ha), l.w.ba.frame fun a ha => dI fun e => l.f2 (e ▸ ha), l.w.dj⟩, fU l.f, l.f1, l.f2⟩
theorem LS.go (l : LS H S y st B b F cells s) {H' : AH} {y' : aO} {st' : St} {b' : Bk} (g : bP H S y B b H' y' st' b') : LS H' S y' st' B b' F cells s := by
 obtain ⟨o1, _, o3, o4⟩ := g.out (cR l.f) l.f1 l.f2
 exact ⟨g.w, o1.trans l.f, o3, o4⟩
theorem LS.sgo (l : LS H S y st B b F cells s) {H' : AH} {st' : St} (g : cI H S y H' st') : ∃ y', LS H' S y' st' B b F cells s := by
 obtain ⟨y', g'⟩ := l.w.store g
 exact ⟨y', l.go g'⟩
theorem Mh (l : LS H S y st B b F cells s) (t : bf st) (fa : st.failed = false) (Uf : st.marks.length < 4000) (hc : cells.length <= 64) (hs : s < 700)
  (q : ∀ H' y' s', LS H' S y' (jQ st) B b F cells s' -> s' <= s + 13 -> Q (.bool true) H') : WC (n + 130) 18 [.ref F, .ref S] H Q := by
 rw [jp (f := 18) rfl rfl]
 have lF := cR l.f
 refine DR (n := n) l.w t l.f l.f1 l.f2 hc hs fun H1 B1 b1 c p a s' co p1 SO wi wk s1 s2 w1 m1 f1 VW => ?_
 refine LM (n := n) w1 t fa Uf SO wi wk co p1 VW fun loc H2 y2 sa k => ?_
 have fF := k F aL
 have SM : ag H2 F ≠ ag H F := by
  rw [fF.1, f1, l.f]; simp [bI]; trivial
 show cO H Q (.bool true) H2
 rw [mF F lF SM]
 refine q H2 y2 s' ⟨⟨sa, m1.frame fun a ha => (k a (aQ _ ha)).1, fun a ha hb => (k a (aQ _ hb)).2.2 ha⟩, fF.1.trans f1, fF.2.2, l.f2⟩ s2
set_option tactic.hygienic true in
theorem Good.pop {cs : List (List aj)} (g : Good st b cs) {k : Nat} (h1 : 1 <= k) (h2 : k <= st.marks.length) : Good (fT st k) b cs /\ (∀ p ∈ b.cl, Wt (fT st k).doms p.2) /\ (fT st k).failed = false /\ (fT st k).marks.length < st.marks.length := by
 obtain ⟨m, hm⟩ : ∃ m, st.marks[st.marks.length - k]? = some m := ⟨_, bR (by trivial)⟩
 have e1 : st.marks.getD (st.marks.length - k) 0 = m := by simp [hm]
 have u := yw g.t.tr m
 rw [<-g.t.dm] at u
 have mm := aT hm
 have ed : (fT st k).doms = run D0 (st.trail.take m) := by
  show jc (st.trail.drop (st.marks.getD (st.marks.length - k) 0)) st.doms = _
  rw [e1]; exact u.1
 have et : (fT st k).trail = st.trail.take m := by
  show st.trail.take (st.marks.getD (st.marks.length - k) 0) = _
  rw [e1]
 have em : (fT st k).marks = st.marks.take (st.marks.length - k) := rfl
 have le : ∀ m' ∈ (fT st k).marks, m' <= m /\ m' ∈ st.marks := by
  intro m' h
  rw [em] at h
  obtain ⟨j, hj⟩ := ju.mp h
  rw [tP] at hj
  split at hj
  ·rename_i jl
   refine ⟨?_, aT hj⟩
   have := List.pairwise_iff_getElem.mp g.t.ms j (st.marks.length - k) (by trivial) (by trivial) jl
   rw [bR (by trivial)] at hj hm
   have q1 := aC hj; have q2 := aC hm
   rw [<-q1, <-q2]; exact this
  ·cases hj
 refine ⟨⟨⟨g.t.fi, by rw [et]; exact u.2, by rw [ed, et], by simp [fT], by simp [fT], ?_, ?_⟩, g.bo, g.fr, ?_⟩, ?_, ?_, ?_⟩
 ·intro m' h
  obtain ⟨l1, l2⟩ := le m' h
  rw [et, qP]
  have := g.t.ma m' l2; trivial
 ·rw [em]; exact g.t.ms.sublist (List.take_sublist _ _)
 ·intro m' h p hp
  obtain ⟨l1, l2⟩ := le m' h
  rw [et, List.take_take, oC l1]
  exact g.sn m' l2 p hp
 ·intro p hp; rw [ed]; exact g.sn m mm p hp
 ·show decide ((0 : M) ∈ st.firsts) = false
  rw [g.t.fi]; decide
 ·rw [em, qP]; trivial
end
end
section
section
variable {n : Nat} {H : AH} {S B : Nat} {y : aO} {st : St} {b : Bk} {Q : V -> AH -> Prop} {F : Nat} {cells : List Int} {s : Nat}
theorem zd (l : LS H S y st B b F cells s) (hc : cells.length <= 64) (hs : s < 700) {cs : List (List aj)} (go : Good st b cs) (hm : 0 < st.marks.length) {x0 x3 x4 x5 x6 x7 x8 x9 x10 : Option V} {Qx : Fl -> Loc -> AH -> Prop}
  (q : ∀ k H' y', 1 <= k -> k <= st.marks.length -> LS H' S y' (fT st k) B b F cells (s + 1) -> Qx .next [x0, some (.ref F), some (.ref S), x3, x4, x5, x6, x7, x8, x9, x10] H') (Uf : st.marks.length < 90) :
  bN (n + 136) [.expr (.meth (.loc 2) 2 [.bin (.add) (.const (.int 1)) (.fn 10 [.loc 1, .meth (.loc 2) 25 []])])] [x0, some (.ref F), some (.ref S), x3, x4, x5, x6, x7, x8, x9, x10] H Qx := by
 simp? only [eW, fC, d9, exists_eq_left', V.ref.injEq, l.w.sa.wm, pZ (n := n + 121) l.w.sa]
 refine lP (n := n + 112) l.f hc (by trivial) hm (by trivial) fun v hv => ?_
 have l1 := l.feed (s + 1)
 simp? only []
 have tl := go.t.tl
 have e : (1 : Int) + (v : Int) = ((v + 1 : Nat) : Int) := by trivial
 rw [e]
 refine Cr (n := n + 84) (k := v + 1) l1.w.sa (by trivial) (by trivial) ?_ (by trivial) (fun e he => by rw [go.t.len]; exact (Bx go.t e he).1) fun H' g => ?_
 ·refine go.t.ma _ ?_
  rw [ni, bR (by trivial)]
  exact C5 _
 ·obtain ⟨y', l2⟩ := l1.sgo g
  simp? only []
  exact q (v + 1) H' y' (by trivial) (by trivial) l2
end
end
section
section
variable {n : Nat} {H : AH} {S B : Nat} {y : aO} {st : St} {b : Bk} {Q : V -> AH -> Prop} {F : Nat} {cells : List Int} {s : Nat}
theorem MI (x : Int) : cq [V.int x] = [V.int x] := rfl
theorem Po (l : LS H S y st B b F cells s) {cs : List (List aj)} (ho : gz cs) (go : Good st b cs) (fa : st.failed = false) (hw : ∀ p ∈ b.cl, Wt st.doms p.2) (Uf : st.marks.length < 90) {lit : aj} (hl : lit.ok) {x0 x4 x5 x6 x7 x8 : Option V} {Qx : Fl -> Loc -> AH -> Prop}
  (q : ∀ r H' y' st' b', LS H' S y' st' B b' F cells s -> Good st' b' cs -> (r = true -> st'.failed = false /\ ∀ p ∈ b'.cl, Wt st'.doms p.2) -> (r = false -> 0 < st'.marks.length) -> st'.marks.length <= st.marks.length + 1 -> Qx .next [x0, some (.ref F), some (.ref S), some (.ref B), x4, x5, x6, x7, x8, some (.bool r), some (au lit)] H') :
  WX (n + 137) jI [x0, some (.ref F), some (.ref S), some (.ref B), x4, x5, x6, x7, x8, some (.bool true), some (au lit)] H Qx := by
 simp? only [jI, eW, fC, d9, exists_eq_left', V.ref.injEq, l.w.sa.wm]
 rw [lO (n := n + 88) l.w.sa go.t hl]
 simp? only [jO]
 by_cases h0 : sd st lit = 0
 ·rw [if_pos (decide_eq_true h0)]
  simp? only [l.w.sa.wm]
  refine Bn (n := n + 122) l.w.sa (by trivial) fun H1 g1 => ?_
  obtain ⟨y1, l1⟩ := l.sgo g1
  have t1 := go.t.push
  generalize hst1 : ({ st with marks := st.marks ++ [st.trail.length] } : St) = S7 at l1 t1
  have d1 : S7.doms = st.doms := by rw [<-hst1]
  have m1 : S7.marks = st.marks ++ [st.trail.length] := by rw [<-hst1]
  have r1 : S7.trail = st.trail := by rw [<-hst1]
  have Yf : S7.failed = false := by rw [<-hst1]; exact fa
  simp? only [l1.w.sa.wm]
  refine yO (n := n + 122) l1.w.sa (by have := t1.nl; trivial) fun H2 g2 => ?_
  obtain ⟨y2, l2⟩ := l1.sgo g2
  have t2 : bf { S7 with news := [] } := ⟨t1.fi, t1.tr, t1.dm, by simp, by simp, t1.ma, t1.ms⟩
  generalize hst2 : ({ S7 with news := [] } : St) = Sv at l2 t2
  have d2 : Sv.doms = st.doms := by rw [<-hst2]; exact d1
  have m2 : Sv.marks = st.marks ++ [st.trail.length] := by rw [<-hst2]; exact m1
  have r2 : Sv.trail = st.trail := by rw [<-hst2]; exact r1
  have fa2 : Sv.failed = false := by rw [<-hst2]; exact Yf
  have n2 : Sv.news = [] := by rw [<-hst2]
  have h2 : sd Sv lit = 0 := by unfold sd St.dom; rw [d2]; exact h0
  have n0 : ¬ Sv.dom lit.x &&& lit.m = 0 := fun q => by have := (nZ (t2.ne hl.1)).mpr q; unfold sd at h2; trivial
  have n1 : ¬ Sv.dom lit.x &&& lit.m = Sv.dom lit.x := fun q => by have := rW.mpr q; unfold sd at h2; trivial
  simp? only [l2.w.sa.wm]
  refine Ml (n := n + 67) l2.w.sa hl (by rw [t2.len]; exact hl.1) (by have := t2.tl; trivial) (by rw [n2]; simp) (fun c => absurd c n0) (fun u' c => absurd c n1) fun u' u' H3 g3 => ?_
  obtain ⟨y3, l3⟩ := l2.sgo g3
  have t3 := t2.enter hl h2 .none (.int (-1))
  have Xp : (dL Sv lit .none (.int (-1))).news = [((lit.x : Int), .bool true)] := by show dictPut Sv.news _ _ = _; rw [n2]; rfl
  have d3 : (dL Sv lit .none (.int (-1))).doms = st.doms.set lit.x (st.doms.getD lit.x 0 &&& lit.m) := by show Sv.doms.set lit.x (Sv.doms.getD lit.x 0 &&& lit.m) = _; rw [d2]
  have m3 : (dL Sv lit .none (.int (-1))).marks = st.marks ++ [st.trail.length] := m2
  have Zb : (dL Sv lit .none (.int (-1))).failed = false := fa2
  have r3 : (dL Sv lit .none (.int (-1))).trail = st.trail ++ [⟨lit.x, Sv.dom lit.x, lit, .none, .int (-1)⟩] := by show Sv.trail ++ _ = _; rw [r2]
  generalize dL Sv lit .none (.int (-1)) = SG at l3 t3 Xp d3 m3 Zb r3
  simp? only [if_true, l3.w.ba.wm, l3.w.sa.wm]
  refine yO (n := n + 120) l3.w.sa (by rw [Xp]; simp) fun H4 g4 => ?_
  obtain ⟨y4, l4⟩ := l3.sgo g4
  have t4 : bf { SG with news := [] } := ⟨t3.fi, t3.tr, t3.dm, by simp, by simp, t3.ma, t3.ms⟩
  simp? only [Xp, cA, gE, MI]
  have go4 : Good { SG with news := [] } b cs := by
   refine ⟨t4, go.bo, go.fr, fun m hm p hp => ?_⟩
   have hm : m ∈ st.marks ++ [st.trail.length] := m3 ▸ hm
   show Wt (run D0 (SG.trail.take m)) p.2
   rw [r3]
   rcases aW.mp hm with hm | hm
   ·rw [Rp (go.t.ma m hm)]; exact go.sn m hm p hp
   ·simp only [aN] at hm; subst hm
    rw [List.take_left' rfl, <-go.t.dm]; exact hw p hp
  have pe : iq { SG with news := [] } b [lit.x] 0 [] := by
   intro k a c hk
   obtain ⟨c2, _, _, _⟩ := go.bo.cls ho hk
   have wt := hw _ (aT hk)
   rcases c with _ | ⟨l0, _ | ⟨l1, r⟩⟩
   ·simp at c2
   ·simp at c2
   by_cases qq : l0.x = lit.x \/ l1.x = lit.x
   ·refine .inr (.inr ⟨0, lit.x, bq _, rfl, ?_⟩)
    rcases qq with e | e <;> simp [fr, e]
   ·left
    show Wt SG.doms _
    rw [d3]
    exact zy (by rw [go.t.len]; exact hl.1) wt (fun z => qq (.inl z)) fun z => qq (.inr z)
  refine KW (n := n + 19) l4.w ho go4 (chs := [lit.x]) (by simp) pe fun r H5 y5 Yr b5 g5 go5 ZH YJ => ?_
  ·simp? only []
   have l5 := l4.go g5
   have VZ : Yr.marks = st.marks ++ [st.trail.length] := ZH.trans m3
   refine q r H5 y5 Yr b5 l5 go5 (fun e => ⟨(YJ e).1.trans Zb, (YJ e).2⟩) (fun u' => by rw [VZ]; simp) (by rw [VZ]; simp)
 ·rw [if_neg (by simpa using h0)]
  exact q true H y st b l go (fun u' => ⟨fa, hw⟩) (by simp) (by trivial)
end
end
section
section
variable {n : Nat} {H : AH} {S B : Nat} {y : aO} {st : St} {b : Bk} {Q : V -> AH -> Prop} {F : Nat} {cells : List Int} {s : Nat}
theorem Good.clean {cs : List (List aj)} (g : Good st b cs) : Good (jQ st) b cs := ⟨⟨g.t.fi, g.t.tr, g.t.dm, by simp [jQ], by simp [jQ], g.t.ma, g.t.ms⟩, g.bo, g.fr, g.sn⟩
theorem G8 (l : LS H S y st B b F cells s) (hc : cells.length <= 64) (hs : s < 600) {cs : List (List aj)} (Tz : ∀ c ∈ cs, jK c) (SM : cs ≠ []) (ho : gz cs) (go : Good st b cs) (fa : st.failed = false) (hw : ∀ p ∈ b.cl, Wt st.doms p.2) (Uf : st.marks.length < 90) {x0 x4 x5 x6 x8 x9 x10 : Option V} {Qx : Fl -> Loc -> AH -> Prop}
  (q : ∀ r H' y' st' b' s' lit, LS H' S y' st' B b' F cells s' -> s' <= s + 16 -> Good st' b' cs -> (r = true -> st'.failed = false /\ ∀ p ∈ b'.cl, Wt st'.doms p.2) -> (r = false -> 0 < st'.marks.length) -> st'.marks.length <= st.marks.length + 1 -> Qx .next [x0, some (.ref F), some (.ref S), some (.ref B), x4, x5, x6, some (.lst (cs.map cJ)), x8, some (.bool r), lit] H') :
  bN (n + 137) [kZ, li, kS, jI] [x0, some (.ref F), some (.ref S), some (.ref B), x4, x5, x6, some (.lst (cs.map cJ)), x8, x9, x10] H Qx := by
 simp? only [kZ]
 rw [zK (n := n + 73) l.w Tz ho go hw SM]
 simp? only [gf, if_true]
 refine Mh (n := n + 3) l go.t fa (by trivial) hc (by trivial) fun H1 y1 s1 l1 Wh => ?_
 simp? only [gf, cu, if_false]
 simp? only [li]
 refine zs (n := n + 105) l1.f hc (by trivial) fun lit hl => ?_
 have l2 := l1.feed (s1 + 3)
 simp? only []
 simp? only [kS]
 refine Po (n := n) l2 ho go.clean rfl hw Uf hl fun r H3 y3 SG b3 l3 g3 h1 h2 h3 => ?_
 simp? only []
 exact q r H3 y3 SG b3 _ _ l3 (by trivial) g3 h1 h2 h3
theorem LA (hc : cells.length <= 64) {cs : List (List aj)} (Tz : ∀ c ∈ cs, jK c) (SM : cs ≠ []) (ho : gz cs) {x0 x4 x5 x8 : Option V} {Qx : Fl -> Loc -> AH -> Prop}
  (hN : ∀ r H' y' st' b' s' x6 x10, LS H' S y' st' B b' F cells s' -> Good st' b' cs -> (r = true -> st'.failed = false /\ ∀ p ∈ b'.cl, Wt st'.doms p.2) -> Qx .next [x0, some (.ref F), some (.ref S), some (.ref B), x4, x5, x6, some (.lst (cs.map cJ)), x8, some (.bool r), x10] H') :
  ∀ (m Te : Nat) (H : AH) (y : aO) (st : St) (b : Bk) (s : Nat) (r : Bool) (x6 x10 : Option V), Te + m = 5 -> LS H S y st B b F cells s -> s <= 100 + 20 * Te -> Good st b cs -> (r = true -> st.failed = false /\ ∀ p ∈ b.cl, Wt st.doms p.2) -> (r = false -> 0 < st.marks.length) -> st.marks.length <= Te →
   hM (n + 137) (.name 6) kL none ((eV Te m).map az) [x0, some (.ref F), some (.ref S), some (.ref B), x4, x5, x6, some (.lst (cs.map cJ)), x8, some (.bool r), x10] H Qx := by
 intro m
 induction m with
 | zero =>
  intro Te H y st b s r x6 x10 hm l hs go h1 h2 h3
  simp only [DH, gE, jJ]
  exact ⟨rfl, hN r H y st b s x6 x10 l go h1⟩
 | succ m ih =>
  intro Te H y st b s r x6 x10 hm l hs go h1 h2 h3
  simp only [DI, cA, lH]
  refine ⟨rfl, ?_⟩
  simp only [WSt_name, uh, xV, az]
  rw [show kL = [pH, sL] ++ [kZ, li, kS, jI] from rfl]
  simp only [kj, kg]
  have tail : ∀ H y st s x9, LS H S y st B b F cells s -> s <= 102 + 20 * Te -> Good st b cs -> st.failed = false -> (∀ p ∈ b.cl, Wt st.doms p.2) -> st.marks.length <= Te →
    bN (n + 137) [kZ, li, kS, jI] [x0, some (.ref F), some (.ref S), some (.ref B), x4, x5, some (.int Te), some (.lst (cs.map cJ)), x8, x9, x10] H (dn (hM (n + 137) (.name 6) kL none ((eV (Te + 1) m).map az)) Qx) := by
   intro H y st s x9 l hs go fa hw hm
   refine G8 (n := n) l hc (by trivial) Tz SM ho go fa hw (by trivial) fun r' H' y' st' b' s' lit l' Tq Tb k1 k2 k3 => ?_
   exact ih (Te + 1) H' y' st' b' s' r' _ _ (by trivial) l' (by trivial) Tb k1 k2 (by trivial)
  have dp := fun (n : Nat) (Q : V -> AH -> Prop) => pZ (n := n) (Q := Q) l.w.sa
  cases r
  ·have h2 := h2 rfl
   simp? only [pH, eW, fC, d9, exists_eq_left', V.ref.injEq, l.w.sa.wm, jt, if_true]
   rw [pZ (n := n + 123) l.w.sa]
   simp? only [jO]
   rw [if_neg (by rw [decide_eq_true_iff]; trivial)]
   have Sy := fun (x9 : Option V) => zd (n := n) l hc (by trivial) go h2 (x0 := x0) (x3 := some (.ref B)) (x4 := x4) (x5 := x5) (x6 := some (.int Te)) (x7 := some (.lst (cs.map cJ))) (x8 := x8) (x9 := x9) (x10 := x10) (Qx := dn (bN (n + 137) [kZ, li, kS, jI]) (dn (hM (n + 137) (.name 6) kL none ((eV (Te + 1) m).map az)) Qx))
    (fun k H' y' k1 k2 l' => by
     obtain ⟨g1, g2, g3, g4⟩ := go.pop k1 k2
     exact tail H' y' _ (s + 1) _ l' (by trivial) g1 g3 g2 (by trivial)) (by trivial)
   have Sy := Sy (some (.bool false))
   simp? only [sL, jt, if_true, reduceCtorEq, if_false] at Sy ⊢
   exact Sy
  ·obtain ⟨fa, hw⟩ := h1 rfl
   simp? only [pH, eW, fC, d9, exists_eq_left', V.ref.injEq, l.w.sa.wm, gf, cu, if_false]
   have U7 : ∀ H s, LS H S y st B b F cells s -> s <= 102 + 20 * Te -> bN (n + 137) [kZ, li, kS, jI] [x0, some (.ref F), some (.ref S), some (.ref B), x4, x5, some (.int Te), some (.lst (cs.map cJ)), x8, some (.bool true), x10] H (dn (hM (n + 137) (.name 6) kL none ((eV (Te + 1) m).map az)) Qx) := fun H s l hs => tail H y st s _ l hs go fa hw h3
   simp? only [sL, gf, cu, if_true, if_false]
   by_cases c0 : (Te : Int) > 0
   ·rw [if_pos (decide_eq_true c0)]
    refine lP (n := n + 112) (k := 3) l.f hc (by trivial) (by trivial) (by trivial) fun v hv => ?_
    have l1 := l.feed (s + 1)
    simp? only [jO]
    by_cases c1 : (v : Int) = 2
    ·rw [if_pos (decide_eq_true c1)]
     simp? only [l1.w.sa.wm]
     rw [pZ (n := n + 122) l1.w.sa]
     simp? only []
     by_cases c2 : ((st.marks.length : Nat) : Int) > 0
     ·rw [if_pos (decide_eq_true c2)]
      have Sy := fun (x9 : Option V) => zd (n := n) l1 hc (by trivial) go (by trivial) (x0 := x0) (x3 := some (.ref B)) (x4 := x4) (x5 := x5) (x6 := some (.int Te)) (x7 := some (.lst (cs.map cJ))) (x8 := x8) (x9 := x9) (x10 := x10) (Qx := dn (bN (n + 137) [kZ, li, kS, jI]) (dn (hM (n + 137) (.name 6) kL none ((eV (Te + 1) m).map az)) Qx))
       (fun k H' y' k1 k2 l' => by
        obtain ⟨g1, g2, g3, g4⟩ := go.pop k1 k2
        exact tail H' y' _ (s + 1 + 1) _ l' (by trivial) g1 g3 g2 (by trivial)) (by trivial)
      have Sy := Sy (some (.bool true))
      simp? only [] at Sy ⊢
      exact Sy
     ·rw [if_neg (by simpa using c2)]
      have := U7 _ _ l1 (by trivial)
      simp? only [] at this ⊢
      exact this
    ·rw [if_neg (by simpa using c1)]
     have := U7 _ _ l1 (by trivial)
     simp? only [decide_eq_false c1, cu, if_false] at this ⊢
     exact this
   ·rw [if_neg (by simpa using c0)]
    have := U7 _ _ l (by trivial)
    simp? only [decide_eq_false c0, cu, if_false] at this ⊢
    exact this
end
end
section
section
variable {n : Nat} {H : AH} {S B : Nat} {y : aO} {st : St} {b : Bk} {Q : V -> AH -> Prop} {F : Nat} {cells : List Int} {s : Nat}
theorem JU (hc : cells.length <= 64) {x0 x2 x3 x4 x5 x6 x7 x8 x9 x10 Zn : Option V} : ∀ (m i : Nat) (H : AH) (s : Nat) (x : Option V) (Qs : List V -> AH -> Prop), ag H F = some (bI cells s) -> s + 13 * m < 800 →
  (∀ (cs : List (List aj)) (s' : Nat), cs.length = m -> (∀ c ∈ cs, jK c) -> s' <= s + 13 * m -> Qs (cs.map cJ) (H.set F (bI cells s'))) →
  jR (n + 41) (.fn 12 [.loc 1]) [12] true [] none ((eV i m).map az) [x0, some (.ref F), x2, x3, x4, x5, x6, x7, x8, x9, x10, Zn, x] H Qs := by
 intro m
 induction m with
 | zero =>
  intro i H s x Qs h hs q
  simp only [DH, gE, uk]
  refine ⟨rfl, ?_⟩
  have := q [] s rfl (by simp) (by trivial)
  rw [rK (by exact h)] at this
  exact this
 | succ m ih =>
  intro i H s x Qs h hs q
  simp only [DI, cA, wH]
  refine ⟨rfl, ab rfl ?_⟩
  simp? only [if_true]
  refine An (n := n) h hc (by trivial) fun c s1 co s2 s3 => ?_
  simp? only []
  refine ih (i + 1) _ s1 _ _ (fU h) (by trivial) fun cs s' e1 e2 e3 => ?_
  rw [nA]
  simp only [kCon2]
  exact q (c :: cs) s' (by simp [e1]) (fun z hz => (aP.mp hz).elim (fun e => e ▸ co) (e2 z)) (by trivial)
theorem Ir {cs : List (List aj)} (Tz : ∀ c ∈ cs, jK c) (h8 : cs.length <= 8) {x0 x4 x5 x6 x9 x10 : Option V} {Qx : Fl -> Loc -> AH -> Prop}
  (q : ∀ H' b' x8, LS H' S y st B b' F cells s -> gp b' cs (fun u' => False) -> b'.fresh = bQ cs.length -> Qx .next [x0, some (.ref F), some (.ref S), some (.ref B), x4, x5, x6, some (.lst (cs.map cJ)), x8, x9, x10] H') :
  ∀ (Sa pre : List (List aj)) (H : AH) (b : Bk) (x8 : Option V), cs = pre ++ Sa -> LS H S y st B b F cells s -> b.cl.map (·.2) = pre -> b.fresh = bQ pre.length -> b.wa = [] →
   hM (n + 40) (.name 8) uI none (Sa.map cJ) [x0, some (.ref F), some (.ref S), some (.ref B), x4, x5, x6, some (.lst (cs.map cJ)), x8, x9, x10] H Qx := by
 intro Sa
 induction Sa with
 | nil =>
  intro pre H b x8 et l SO hf hw
  simp only [im] at et
  subst et
  rw [gE, jJ]
  refine ⟨rfl, q H b x8 l ⟨?_, ?_, by rw [hw]; exact yk _, fun k a c u' h => h.elim, fun k u' z => by rw [hw]; simp [wl, jv, jA]⟩ hf⟩
  ·rw [<-SO]; simp
  ·intro k a c hk
   refine ⟨c, ?_, .refl _⟩
   rw [<-SO, cM, hk]; rfl
 | cons c Sa ih =>
  intro pre H b x8 et l SO hf hw
  have co := Tz c (by rw [et]; simp)
  have c4 := co.four
  have bl : b.cl.length = pre.length := by rw [<-SO]; simp
  have pl : pre.length <= 8 := by have := congrArg t0 et; simp at this; trivial
  rw [cA, lH]
  refine ⟨rfl, ?_⟩
  simp? only [uI, zN, l.w.ba.wm]
  refine AC (n := n + 18) l.w.ba co.two (by trivial) (by trivial) (by rw [hf]; simp; trivial) fun H' a g => ?_
  have l' := l.go (l.w.book g)
  simp? only []
  refine ih (pre ++ [c]) H' _ _ (by simp [et]) l' (by simp [SO]) ?_ hw
  show b.fresh ++ [b.cl.length] = _
  rw [hf, bl]; simp [List.range_succ]
theorem MV {is : List Int} (Y8 : is.length <= 63) : WC (n + 160) 19 [.lst (is.map .int)] H fun x u' => x = .bool true := by
 rw [jp (f := 19) rfl rfl]
 have ec : ∀ (x : V) (H' : AH), x = .bool true -> cO H (fun x u' => x = .bool true) x H' := fun x H' e => by unfold cO; split <;> exact e
 simp only [b19, WXs_cons, WXs_nil]
 have Uk : d6 (is.map V.int) none (some 40) = (is.take 40).map V.int := by unfold d6; simp [Rm]
 have X3 : fN (some (.int 40)) = some (some 40) := rfl
 simp? only [-WE_new, Cf, cA, gE, kj, bK, asL_l, dF, X3, Uk, dN]
 have hc : (is.take 40).length <= 64 := by rw [qP]; trivial
 generalize SP : is.take 40 = cells at hc ⊢
 rw [show (ar.list [V.lst (cells.map V.int), V.int 0]) = bI cells 0 from rfl]
 have Vp : ag (H ++ [bI cells 0]) H.length = some (bI cells 0) := iG _ _
 have VC : (H ++ [bI cells 0]).length = H.length + 1 := by simp
 generalize hF : H.length = F at Vp VC ⊢
 generalize H ++ [bI cells 0] = H1 at Vp VC ⊢
 refine I8 (n := n + 138) fun hs => ?_
 have fS : ∀ a ∈ aO.foot H1.length ⟨H1.length + 1, H1.length + 2, H1.length + 3, H1.length + 4, H1.length + 5, H1.length + 6⟩, H1.length <= a /\ a < H1.length + 7 := by
  intro a ha; simp [aO.foot] at ha; trivial
 generalize (⟨H1.length + 1, H1.length + 2, H1.length + 3, H1.length + 4, H1.length + 5, H1.length + 6⟩ : aO) = y at hs fS ⊢
 generalize hX : ([.inst 1 (H1.length + 1), .attrs (dW y cj), .list [], .list [], .list [], .list [], .dict []] : List ar) = X at hs ⊢
 have hXl : X.length = 7 := by rw [<-hX]; rfl
 have W4 : ag (H1 ++ X) F = some (bI cells 0) := (eY (cR Vp)).trans Vp
 have YU : (H1 ++ X).length = H1.length + 7 := by simp [hXl]
 generalize H1.length = S at hs fS VC YU ⊢
 generalize H1 ++ X = H2 at hs W4 YU ⊢
 simp? only [-WE_new]
 refine Ci (n := n + 138) fun hb => ?_
 have fB : ∀ a ∈ Bk.foot H2.length (dK H2.length), H2.length <= a := by
  intro a ha; simp [Bk.foot, Bk.base, dK] at ha; trivial
 generalize hX : ([.inst 0 (H2.length + 1), .attrs (gk (dK H2.length)), .list [], .list [], .list [], .dict []] : List ar) = X at hb ⊢
 have l0 : LS (H2 ++ X) S y cj H2.length (dK H2.length) F cells 0 :=
  ⟨⟨hs.frame fun a ha => eY (hs.lt a ha), hb, fun a ha hb => by have := fS a ha; have := fB a hb; trivial⟩, (eY (cR W4)).trans W4, fun m => by have := (fS _ m).1; trivial, fun m => by have := fB _ m; have := cR W4; trivial⟩
 have b1 : (dK H2.length).cl = [] := rfl
 have b2 : (dK H2.length).fresh = [] := rfl
 have b3 : (dK H2.length).wa = [] := rfl
 generalize dK H2.length = b at l0 b1 b2 b3 ⊢
 generalize H2.length = B at l0 ⊢
 generalize H2 ++ X = H3 at l0 ⊢
 simp? only [-WE_new, List.replicate_succ, List.replicate_zero, kg, Nat.add_one_sub_one]
 simp? only [B9]
 refine ⟨by decide, ?_⟩
 rw [show ((bQ (3 : Int).toNat).map fun (k : Nat) => V.int (k : Int)) = [.int 0, .int 1, .int 2] from rfl]
 have Xs : V.tup [V.tup [V.int 0, V.int 3]] = mV 15 := rfl
 simp? only [lH, jJ, bU, true_and, zw, yS, l0.w.sa.wm, Xs]
 refine wL (n := n + 144) (m := 15) l0.w.sa (by decide) (by decide) (by decide) fun H4 g4 => ?_
 obtain ⟨y4, l4⟩ := l0.sgo g4
 simp? only [lH, jJ, bU, true_and, l4.w.sa.wm, Xs]
 refine wL (n := n + 144) (m := 15) l4.w.sa (by decide) (by decide) (by decide) fun H5 g5 => ?_
 obtain ⟨y5, l5⟩ := l4.sgo g5
 simp? only [lH, jJ, bU, true_and, l5.w.sa.wm, Xs]
 refine wL (n := n + 144) (m := 15) l5.w.sa (by decide) (by decide) (by decide) fun H6 g6 => ?_
 obtain ⟨y6, l6⟩ := l5.sgo g6
 have t6 : bf { { { cj with doms := cj.doms ++ [15], firsts := cj.firsts ++ [15] } with doms := cj.doms ++ [15] ++ [15], firsts := cj.firsts ++ [15] ++ [15] } with doms := cj.doms ++ [15] ++ [15] ++ [15], firsts := cj.firsts ++ [15] ++ [15] ++ [15] } :=
  ⟨rfl, trivial, rfl, by simp [cj], by simp [cj], by simp [cj], by simp [cj]⟩
 have Xu : LS H6 S y6 { { { cj with doms := cj.doms ++ [15], firsts := cj.firsts ++ [15] } with doms := cj.doms ++ [15] ++ [15], firsts := cj.firsts ++ [15] ++ [15] } with doms := cj.doms ++ [15] ++ [15] ++ [15], firsts := cj.firsts ++ [15] ++ [15] ++ [15] } B b F cells 0 := l6
 clear l6
 have m6 : cj.marks = [] := rfl
 have f6 : cj.failed = false := rfl
 generalize Sr : ({ { { cj with doms := cj.doms ++ [15], firsts := cj.firsts ++ [15] } with doms := cj.doms ++ [15] ++ [15], firsts := cj.firsts ++ [15] ++ [15] } with doms := cj.doms ++ [15] ++ [15] ++ [15], firsts := cj.firsts ++ [15] ++ [15] ++ [15] } : St) = st at Xu t6
 have m6 : st.marks = [] := by rw [<-Sr]; rfl
 have f6 : st.failed = false := by rw [<-Sr]; rfl
 simp? only [jJ, bU, true_and, BS]
 refine lP (n := n + 135) (k := 3) Xu.f hc (by trivial) (by trivial) (by trivial) fun v hv => ?_
 have l7 := Xu.feed 1
 simp? only []
 refine ⟨by trivial, ⟨rfl, by simp; trivial⟩, ?_⟩
 have er : (bQ ((1 : Int) + (v : Int)).toNat).map (fun (j : Nat) => V.int (j : Int)) = (eV 0 (1 + v)).map az := by
  rw [show ((1 : Int) + (v : Int)).toNat = 1 + v by trivial, xU]; rfl
 rw [er]
 refine JU (n := n + 116) hc (1 + v) 0 _ 1 _ _ l7.f (by trivial) fun cs s8 e1 Tz e2 => ?_
 have l8 := l7.feed s8
 simp? only []
 have SM : cs ≠ [] := fun e => by rw [e] at e1; simp at e1; trivial
 have h8 : cs.length <= 8 := by trivial
 have ho : gz cs := ⟨h8, fun c hc => (Tz c hc).two, fun c hc => (Tz c hc).four, fun c hc => (Tz c hc).ok⟩
 simp? only [AQ]
 refine Ir (n := n + 118) (st := st) (y := y6) Tz h8 (fun H9 b9 x8 l9 bo9 fr9 => ?_) cs [] _ b none rfl l8 (by rw [b1]; rfl) b2 b3
 simp? only [AF, l9.w.ba.wm]
 refine Hh (n := n + 43) l9.w ho t6 bo9 fr9 m6 (fun HA yA Yq sA mA => ?_) fun HA yA Yq bA gA goA mA fA wA => ?_
 ·simp? only [uQ]
  refine ⟨by decide, ?_⟩
  rw [show ((bQ (5 : Int).toNat).map fun (k : Nat) => V.int (k : Int)) = .int 0 :: [.int 1, .int 2, .int 3, .int 4] from rfl]
  rw [lH]
  refine ⟨rfl, ?_⟩
  simp? only [kL, pH, sA.wm, jt, if_true]
  rw [pZ (n := n + 144) sA, mA]
  simp? only [jO]
  rw [if_pos (by decide)]
  exact ec _ _ rfl
 ·have lA := l9.go gA
  simp? only [uQ]
  refine ⟨by decide, ?_⟩
  rw [show ((bQ (5 : Int).toNat).map fun (k : Nat) => V.int (k : Int)) = (eV 0 5).map az from rfl]
  refine LA (n := n + 21) hc Tz SM ho (fun r HB yB stB bB sB x6 x10 lB goB hB => ?_) 5 0 HA yA Yq bA s8 true _ _ rfl lA (by trivial) goA (fun u' => ⟨fA.trans f6, wA⟩) (by simp) (by rw [mA]; simp)
  simp? only [yp]
  cases r
  ·simp? only [jt, reduceCtorEq, if_false]
   exact ec _ _ rfl
  ·simp? only [gf, if_true]
   rw [zK (n := n + 96) lB.w Tz ho goB (hB rfl).2 SM]
   simp? only []
   exact ec _ _ rfl
end
end
section
theorem Fu {n m : ac} {v : aa} {l : List (ac × aa)} (h : m ≠ n) : ((n, v) :: l).lookup m = l.lookup m := by
 rw [eT]
 have : (m == n) = false := beq_false_of_ne h
 rw [this]
theorem OE {α β : Type} {f g : α -> Option β} : ∀ {l : List α}, (∀ x ∈ l, f x = g x) -> l.filterMap f = l.filterMap g := by
 intro l
 induction l with
 | nil =>
  intro _
  exact rfl
 | cons a r iH =>
  intro h
  rw [DJ, DJ, h a aL, iH fun x hx => h x (aQ _ hx)]
theorem Nn : ∀ {ns : List ac} {vs : List aa}, ns.Nodup -> vs.length = ns.length -> (∀ n ∈ ns, ((ns.zip vs).lookup n).isSome = true) /\ (ns.filterMap fun n => ((ns.zip vs).lookup n).map (n, ·)) = ns.zip vs := by
 intro ns
 induction ns with
 | nil =>
  intro vs _ _
  simp
 | cons n ns iH =>
  intro Se
  cases Se with
  | nil =>
   intro _ h
   simp at h
  | cons v vs =>
   intro nd h
   obtain ⟨n1, n2⟩ := dh.mp nd
   obtain ⟨i1, i2⟩ := iH (vs := vs) n2 (by simpa using h)
   have hn : ((n, v) :: ns.zip vs).lookup n = some v := by rw [eT]; simp
   have hm : ∀ m ∈ ns, ((n, v) :: ns.zip vs).lookup m = (ns.zip vs).lookup m := fun m hm => Fu fun e => n1 (e ▸ hm)
   constructor
   ·intro m hm'
    rw [nc]
    rcases aP.mp hm' with rfl | hm'
    ·rw [hn]; rfl
    ·rw [hm m hm']; exact i1 m hm'
   ·rw [nc, DJ, hn]
    simp only [dN]
    congr 1
    exact (OE fun m hm' => by rw [hm m hm']).trans i2
noncomputable def kN (p : lk) : Bool := p.posonlyargs.isEmpty && p.vararg.isNone && p.kwonlyargs.isEmpty && p.kwarg.isNone && decide (p.args.map (·.arg)).Nodup
theorem MT {R : List (ac × aa)} {N : List ac} (zn : ∀ n ∈ N, (R.lookup n).isNone = false) (l : List (ac × aa)) (hx : ∀ x ∈ l, x.1 ∈ N) : (forIn l R fun x r => if (List.lookup x.1 r).isNone = true then pure (ForInStep.yield (r ++ [(x.1, x.2)])) else pure (ForInStep.yield r) : d8 _) = pure R := by
 induction l with
 | nil => rw [tN]
 | cons x r ih =>
  rw [js, if_neg (by rw [zn _ (hx x aL)]; exact Q3), pure_bind]
  exact ih fun y hy => hx y (aQ _ hy)
theorem AB {fd : xp} (h : kN fd.params = true) {R8 : List aa} (hl : R8.length = fd.params.args.length) : ∃ k, bindArgs fd ⟨R8, []⟩ = t9 fd.defaults >>= k /\ ∀ o, k o = pure ((fd.params.args.map (·.arg)).zip R8) := by
 simp only [kN, eU, decide_eq_true_eq, Rs, Rt] at h
 obtain ⟨⟨⟨⟨h1, h2⟩, h3⟩, h4⟩, nd⟩ := h
 obtain ⟨z1, z2⟩ := Nn nd (vs := R8) (by simpa using hl)
 have zn : ∀ n ∈ fd.params.args.map (·.arg), (((fd.params.args.map (·.arg)).zip R8).lookup n).isNone = false := fun n hn => by
  have := z1 n hn
  rw [<-Option.not_isSome, this]; rfl
 have hg : ¬ (R8.length > (fd.params.args.map (·.arg)).length) := by rw [hl, aM]; exact eR _
 obtain ⟨nm, qn, ⟨po, as, va, ko, kd, kw, df⟩, a4, a5, a6, a7, a8, a9, b1, b2, b3, b4, b5, b6⟩ := fd
 dsimp only at h1 h2 h3 h4
 cases h1; cases h2; cases h3; cases h4
 refine ⟨_, rfl, fun o => ?_⟩
 refine (if_neg fun e => hg (of_decide_eq_true (bk.mp e).1)).trans ?_
 refine (if_neg fun e => aY ((congrArg (fun l : List ac => !List.isEmpty l) (ui.mpr fun n hn z => aY ((zn n (List.mem_of_mem_take hn)).symm.trans z))).symm.trans e)).trans ?_
 refine (congrArg (fun z => z >>= _) (MT zn _ fun x hx => xT (C2 hx).1)).trans ?_
 refine (pure_bind _ _).trans ?_
 exact congrArg (pure : _ -> d8 _) ((congrArg (List.filterMap _) (im _)).trans z2)
theorem HH {fd : xp} (h : kN fd.params = true) (hd : fd.defaults = .none) {R8 : List aa} (hl : R8.length = fd.params.args.length) : bindArgs fd ⟨R8, []⟩ = pure ((fd.params.args.map (·.arg)).zip R8) := by
 obtain ⟨k, e1, e2⟩ := AB h hl
 rw [e1, hd]
 exact e2 none
theorem uT {h : ao} {a : ak} {o : de} {fd : xp} {ps : lk} {body : List fZ} {sc : cD} {f : Nat} (ho : h.get? a = some o) (hd : o.data = .func fd) (hr : iJ[f]? = some (some (ps, body, sc)))
  (e1 : fd.params = ps) (e2 : fd.body = .stmts body) (e3 : fd.scope = sc) (e4 : fd.globals = ij) (e5 : fd.builtins = tE) (e6 : fd.closure = []) (hc : h.CodeRec fd.code fd.qualname) (hp : kN ps = true)
  (df : fd.defaults = .none \/ ∃ T ot items n, fd.defaults = .ref T /\ h.get? T = some ot /\ ot.data = .seq items n /\ ∀ R8 : List aa, R8.length = ps.args.length -> ∃ k, bindArgs fd ⟨R8, []⟩ = t9 fd.defaults >>= k /\ k (some items) = pure ((ps.args.map (·.arg)).zip R8)) : ix h f a := by
 refine ⟨o, fd, ps, body, sc, ho, hd, hr, e2, e3, e4, e5, e6, hc, fun R8 s hl keep => ?_⟩
 rcases df with df | ⟨T, ot, items, n, d1, d2, d3, d4⟩
 ·subst e1
  exact .of_eq (HH hp df hl)
 ·obtain ⟨k, b1, b2⟩ := d4 R8 hl
  exact .of_defaults d1 (keep _ _ d2) d3 b1 b2
end
section
theorem zG : ((re qv).drop 3).map (·.name) = gK.take 20 := by decide +kernel
theorem KY : ((re qv).drop 3).map (fun d => some (d.params, d.body, d.scope)) = iJ.take 20 := by kernel_rfl
theorem IL : ((re qv).drop 3).all (fun d => kN d.params) = true := by decide +kernel
noncomputable def yu : List ClsRec -> ClsRec
 | [c] => c
 | _ => ⟨CF "", none, [], [], 0, []⟩
noncomputable def j2 : ClsRec := yu (plainsOf qv (looseW qv L0))
noncomputable def iw : ClsRec := yu (dclssOf qv L0)
theorem EP : plainsOf qv (looseW qv L0) = [j2] := by kernel_rfl
theorem G9 : dclssOf qv L0 = [iw] := by kernel_rfl
theorem L9 : j2.name = ("Store" : ac) := by decide +kernel
theorem MZ : iw.name = ("Nogoods" : ac) := by decide +kernel
noncomputable def rI : List Nat := [0, 1, 2, 4, 7, 11, 12, 13, 14, 15, 16, 17, 18, 19]
noncomputable def sN : List Nat := [0, 2, 3, 4, 5, 6, 7, 8, 9, 10]
theorem OP : rI.map (fun j => (j2.withCmp.meths[j]?).map fun m => some (m.params, m.body, m.scope)) = (iJ.drop 30).map some := by kernel_rfl
theorem N6 : sN.map (fun j => (iw.meths[j]?).map fun m => some (m.params, m.body, m.scope)) = ((iJ.drop 20).take 10).map some := by kernel_rfl
theorem Oy : rI.map (fun j => (j2.withCmp.meths[j]?).map (·.name)) = (mT.drop 10).map fun x => some x.2 := by decide +kernel
theorem OA : sN.map (fun j => (iw.meths[j]?).map (·.name)) = (mT.take 10).map fun x => some x.2 := by decide +kernel
theorem GP : j2.withCmp.meths.all (fun m => kN m.params && m.params.defaults.isEmpty) = true := by decide +kernel
theorem G6 : iw.meths.all (fun m => kN m.params) = true := by decide +kernel
theorem Kk : ∀ n ∈ (["__getattribute__", "__getattr__", "__setattr__"] : List ac), n ∈ j2.withCmp.quiet /\ n ∈ iw.quiet := by decide +kernel
theorem Lq : h6.all (fun p => !startupNames.contains p.1 && !(looseW qv L0).contains p.1 && !((re qv).map (·.name)).contains p.1 && !((litsOf qv).map (·.1)).contains p.1 && !((clssOf qv (looseW qv L0)).map (·.name)).contains p.1) = true := by decide +kernel
theorem E0 : h6.all (fun p => decide (bootBuiltins p.1 = some p.2) && decide (p.1 ≠ ("__name__" : ac))) = true := by decide +kernel
end
section
theorem yN {h : ao} {a : ak} {m m' : ac -> Option aa} (x : h.Ns a m) (y : h.Ns a m') : m = m' := by
 obtain ⟨o, es, ep, ho, hd, _, hf⟩ := x
 obtain ⟨o', Si, U2, Th, S8, _, hf'⟩ := y
 rw [ho] at Th; cases Th
 rw [hd] at S8; cases S8
 funext n
 rw [<-hf, <-hf']
def nR (h : ao) (m : ac -> Option aa) (n : ac) : Prop := ∃ C o N mN, m n = some (.ref C) /\ h.get? C = some o /\ AX o = some N /\ h.Ns N mN /\ ∀ k ∈ dE, mN k = none
def qy (h : ao) : Prop := ∃ m, h.Ns ij m /\ m "has_domains" = m "has" /\ nR h m "Nogoods" /\ nR h m "Store"
set_option tactic.hygienic true in
theorem yc {h : ao} {n : ac} (x : sz h n = true) : nR h (h.nsMap ij) n := by
 unfold sz at x
 split at x
 ·rename_i C hC
  split at x
  ·rename_i o ho
   split at x
   ·rename_i N hN
    obtain ⟨x1, x2⟩ := bk.mp x
    exact ⟨C, o, N, _, hC, ho, hN, .of_isNs x1, fun k hk => Rt.mp (bJ.mp x2 k hk)⟩
   ·cases x
  ·cases x
 ·cases x
theorem GS (s : ae) (x : pt s = true) : qy s.heap := by
 unfold pt at x
 simp only [eU, decide_eq_true_eq] at x
 obtain ⟨⟨⟨x1, x2⟩, x3⟩, x4⟩ := x
 exact ⟨_, .of_isNs x1, x2, yc x3, yc x4⟩
theorem Pn (h h' : ao) (x : qy h) (k : ∀ b o, h.get? b = some o -> h'.get? b = some o) : qy h' := by
 obtain ⟨m, x1, x2, x3, x4⟩ := x
 have kc : ∀ n, nR h m n -> nR h' m n := fun n ⟨C, o, N, mN, a1, a2, a3, a4, a5⟩ => ⟨C, o, N, mN, a1, k _ _ a2, a3, a4.keeps k, a5⟩
 exact ⟨m, x1.keeps k, x2, kc _ x3, kc _ x4⟩
noncomputable def Jj : Hook := ⟨Bool, pt, fun u' => true, fun u' h => qy h, fun u' s e => GS s e, fun u' h h' x k => Pn h h' x k⟩
section
variable {w : aE} {TA : ae} {mg mb : ac -> Option aa} {h : ao}
noncomputable abbrev Gr (w : aE) (TA : ae) (mg mb : ac -> Option aa) (h : ao) : Prop := Ground qv L0 [] (XL qv []) w TA mg mb h
theorem wn (G : Gr w TA mg mb h) {i : Nat} (hi : i < 20) : ∃ n a, gK[i]? = some n /\ mg n = some (.ref a) /\ ix h i a := by
 have e1 := congrArg (·[i]?) zG
 have e2 := congrArg (·[i]?) KY
 simp only [cM] at e1 e2
 have hl : ((re qv).drop 3).length = 20 := by have := congrArg t0 zG; simpa [gK] using this
 obtain ⟨d, hd⟩ : ∃ d, ((re qv).drop 3)[i]? = some d := ⟨_, bR (by trivial)⟩
 rw [hd] at e1 e2
 simp only [dN] at e1 e2
 rw [tP, if_pos hi] at e1 e2
 have hm := aT hd
 obtain ⟨a, o, pm, cd, W6, h1, h2, h3, h4⟩ := G.T.fn d (xT hm)
 have hp : kN d.params = true := bJ.mp IL d hm
 exact ⟨d.name, a, e1.symm, h1, uT h2 h3 e2.symm rfl rfl rfl rfl rfl rfl h4 hp (.inl rfl)⟩
def FreeB (h : ao) (mN : ac -> Option aa) (c : Nat) : Prop := ∀ t n, mT[t]? = some (c, n) -> ∃ a, mN n = some (.ref a) /\ ix h (20 + t) a /\ nV h a
end
end
section
section
variable {w : aE} {TA : ae} {mg mb : ac -> Option aa} {h : ao}
theorem Hq {C N : ak} {mN : ac -> Option aa} (P : PlainAt h j2.withCmp C N mN) {t : Nat} (ht : t < 14) : ∃ n a, mT[10 + t]? = some (1, n) /\ mN n = some (.ref a) /\ ix h (30 + t) a /\ nV h a := by
 have e1 := congrArg (·[t]?) OP
 have e2 := congrArg (·[t]?) Oy
 have hx : ∃ j, rI[t]? = some j := ⟨_, bR (by simpa [rI] using ht)⟩
 obtain ⟨j, hj⟩ := hx
 simp only [cM, hj, dN, Dr] at e1 e2
 have hc : ∀ t < 14, (mT[10 + t]?).map (·.1) = some 1 := by decide
 have hc := hc t ht
 obtain ⟨x, hx⟩ : ∃ x, mT[10 + t]? = some x := ⟨_, bR (by simp [mT]; trivial)⟩
 rw [hx] at e2 hc
 simp only [dN, d9] at e2 hc
 cases hm : j2.withCmp.meths[j]? with
 | none => rw [hm] at e2; simp at e2
 | some m =>
  rw [hm] at e1 e2
  simp only [dN, d9] at e1 e2
  have mm := aT hm
  obtain ⟨f, o, pm, cd, W6, q1, q2, q3, q4, q5⟩ := P.meths m mm
  have pp := bJ.mp GP m mm
  obtain ⟨pp, _⟩ := bk.mp pp
  obtain ⟨c, n⟩ := x
  simp only at e2 hc
  subst hc; subst e2
  have hr : iJ[30 + t]? = some (some (m.params, m.body, m.scope)) := by
   cases hr : iJ[30 + t]? with
   | none => rw [hr] at e1; simp at e1
   | some y => rw [hr] at e1; simp at e1; rw [e1]
  exact ⟨m.name, f, hx, q1, uT q2 q4 hr rfl rfl rfl rfl rfl rfl q5 pp (.inl rfl), o, q2, q3⟩
theorem MH {h : ao} : ∀ (ds : List PyData) (vs : List aa) (as : List ak), xb h vs ds as -> vs.length = ds.length := by
 intro ds
 induction ds with
 | nil =>
  intro vs as r
  cases r; rfl
 | cons d ds iH =>
  intro vs as r
  cases r with
  | cons _ r2 => simp [iH _ _ r2]
theorem Eg : iw.meths.all (fun m => m.params.defaults.isEmpty || decide (((litsOf? m.params.defaults).getD []).length = 1)) = true := by decide +kernel
theorem Ld {C N : ak} {mN : ac -> Option aa} (P : PlainAtD h iw C N mN) {t : Nat} (ht : t < 10) : ∃ n a, mT[t]? = some (0, n) /\ mN n = some (.ref a) /\ ix h (20 + t) a /\ nV h a := by
 have e1 := congrArg (·[t]?) N6
 have e2 := congrArg (·[t]?) OA
 have hx : ∃ j, sN[t]? = some j := ⟨_, bR (by simpa [sN] using ht)⟩
 obtain ⟨j, hj⟩ := hx
 simp only [cM, hj, dN, tP, ht, if_true, Dr] at e1 e2
 have hc : ∀ t < 10, (mT[t]?).map (·.1) = some 0 := by decide
 have hc := hc t ht
 obtain ⟨x, hx⟩ : ∃ x, mT[t]? = some x := ⟨_, bR (by simp [mT]; trivial)⟩
 rw [hx] at e2 hc
 simp only [dN, d9] at e2 hc
 cases hm : iw.meths[j]? with
 | none => rw [hm] at e2; simp at e2
 | some m =>
  rw [hm] at e1 e2
  simp only [dN, d9] at e1 e2
  have mm := aT hm
  obtain ⟨f, o, pm, cd, W6, dV, q1, q2, q3, q4, q5, q6⟩ := P.meths m mm
  have pp := bJ.mp G6 m mm
  obtain ⟨c, n⟩ := x
  simp only at e2 hc
  subst hc; subst e2
  have hr : iJ[20 + t]? = some (some (m.params, m.body, m.scope)) := by
   cases hr : iJ[20 + t]? with
   | none => rw [hr] at e1; simp at e1
   | some y => rw [hr] at e1; simp at e1; rw [e1]
  refine ⟨m.name, f, hx, q1, uT q2 q4 hr rfl rfl rfl rfl rfl rfl q5 pp ?_, o, q2, q3⟩
  rcases q6 with ⟨_, q6⟩ | ⟨qne, T, ot, vs, k, ds, r1, _, r3, _, r5, r6, r7⟩
  ·exact .inl q6
  ·have one := bJ.mp Eg m mm
   rw [r6] at one
   simp only [xv, Rs, xi, decide_eq_true_eq] at one
   have one := one.resolve_left qne
   have hl := MH ds vs.toList [] (r7 h)
   obtain ⟨v, hv⟩ : ∃ v, vs = #[v] := Dv.mp (by simpa [one] using hl)
   subst hv
   refine .inr ⟨T, ot, #[v], k, r1, r3, r5, fun R8 hv => ?_⟩
   obtain ⟨k, e1, e2⟩ := AB (fd := methDefD m.name (iw.name ++ ud "." ++ m.name) m.params m.body m.scope pm cd W6 dV) pp hv
   exact ⟨k, e1, e2 _⟩
end
end
section
theorem zL : ∀ {l : List ac} {n : ac} {i : Nat}, l.idxOf? n = some i -> l[i]? = some n := by
 intro l n i h
 unfold List.idxOf? at h
 obtain ⟨h1, h2, _⟩ := Qe.mp h
 rw [bR h1]
 simp only [beq_iff_eq] at h2
 rw [h2]
section
variable {w : aE} {TA : ae} {mg mb : ac -> Option aa} {h : ao}
theorem zv {C N : ak} {mN m : ac -> Option aa} {n : ac} (X : ClsAt h C N mN) (hm : m n = some (.ref C)) (f : nR h m n) : ∀ k ∈ dE, mN k = none := by
 obtain ⟨C', o, N', mN', a1, a2, a3, a4, a5⟩ := f
 rw [hm] at a1; cases a1
 obtain ⟨nm, q, bs, sn, sub, W7, dd, k0, k1, k2, k3, k5, hC⟩ := X.obj
 rw [hC] at a2; cases a2
 have : some N = some N' := a3
 cases this
 rw [yN X.ns a4]; exact a5
noncomputable def BF (C0 C1 N0 N1 : ak) (m0 m1 : ac -> Option aa) : aZ := ⟨fun i => if i = 0 then C0 else C1, fun i => if i = 0 then N0 else N1, fun i => if i = 0 then m0 else m1⟩
theorem NQ {c m f : Nat} (e : cP c m = some f) : (c, m, f) ∈ triples := by
 obtain ⟨x, e1, e2⟩ := oD.mp e
 have p := List.find?_some e1
 have q := List.mem_of_find?_eq_some e1
 obtain ⟨p1, p2⟩ := bk.mp p
 have k : x = (c, m, f) := tD (eq_of_beq p1) (tD (eq_of_beq p2) e2)
 rw [<-k]; exact q
theorem F6 {c f : Nat} (e : nT c = some f) : (c = 0 /\ f = 20) \/ (c = 1 /\ f = 30) := by
 unfold nT at e
 by_cases h : c = 0
 ·rw [if_pos h] at e; exact .inl ⟨h, (aC e).symm⟩
 ·rw [if_neg h] at e
  by_cases h1 : c = 1
  ·rw [if_pos h1] at e; exact .inr ⟨h1, (aC e).symm⟩
  ·rw [if_neg h1] at e; cases e
theorem Lj : triples.all (fun x => decide (x.1 < 2) && decide (20 <= x.2.2) && decide (x.2.2 < 44) && decide ((mT[x.2.2 - 20]?).map (·.1) = some x.1) && decide ((mT[x.2.2 - 20]?).map (·.2) = fI[x.2.1]?) && match fI[x.2.1]? with
 | some n => (("pop" : ac) :: fI.drop 6).contains n
 | none => false) = true := by decide +kernel
theorem Nt (G : Gr w TA mg mb h) (Y : qy h) : ∃ cls, Wd cy cls h /\ ∃ a, mg "law" = some (.ref a) /\ ix h 19 a := by
 obtain ⟨m, y1, y2, y3, y4⟩ := Y
 obtain rfl := yN y1 G.T.g
 obtain ⟨C1, N1, m1, hs, P1⟩ := G.TE j2 (by rw [EP]; exact aN.mpr rfl)
 obtain ⟨C0, N0, m0, hb, P0⟩ := G.TD iw (by rw [G9]; exact aN.mpr rfl)
 rw [L9] at hs
 rw [MZ] at hb
 have q1 := zv P1.cls hs y4
 have q0 := zv P0.cls hb y3
 have meths : ∀ t c n, mT[t]? = some (c, n) -> ∃ a, (BF C0 C1 N0 N1 m0 m1).nm c n = some (.ref a) /\ ix h (20 + t) a /\ nV h a := by
  intro t c n ht
  have hl := (bG.mp ht).1
  have hl : t < 24 := by simpa [mT] using hl
  by_cases t10 : t < 10
  ·obtain ⟨n', a, x1, x2, x3, x4⟩ := Ld P0 t10
   rw [ht] at x1; cases x1
   exact ⟨a, x2, x3, x4⟩
  ·obtain ⟨n', a, x1, x2, x3, x4⟩ := Hq P1 (t := t - 10) (ar21 (k := 23) hl rfl)
   rw [show 10 + (t - 10) = t from ar18 t10, ht] at x1; cases x1
   rw [show 30 + (t - 10) = 20 + t from (mL 20 10 _).trans (congrArg (20 + ·) (ar18 t10))] at x3
   exact ⟨a, x2, x3, x4⟩
 refine ⟨BF C0 C1 N0 N1 m0 m1, ⟨G.T.nolimit, fun c hc => ?_, ⟨m, mb, ?_⟩, fun c f e => ?_, fun c k f e => ?_, Mp, DN⟩, ?_⟩
 ·have sp := Kk
  have : c = 0 \/ c = 1 := by trivial
  rcases this with rfl | rfl
  ·exact ⟨P0.cls, P0.quiet _ (sp _ (by simp)).2, P0.quiet _ (sp _ (by simp)).2, P0.quiet _ (sp _ (by simp)).2, q0⟩
  ·exact ⟨P1.cls, P1.quiet _ (sp _ (by simp)).1, P1.quiet _ (sp _ (by simp)).1, P1.quiet _ (sp _ (by simp)).1, q1⟩
 ·refine ⟨G.T.g, G.T.b, fun p hp => ?_, fun p hp => ?_, fun n i e => ?_, fun n i e => ?_⟩
  ·have := bJ.mp Lq p hp
   simp only [eU, C3, List.contains_eq_mem, decide_eq_false_iff_not] at this
   obtain ⟨⟨⟨⟨f1, f2⟩, f3⟩, f4⟩, f5⟩ := this
   exact G.T.free p.1 f1 f2 f3 f4 f5
  ·have := bJ.mp E0 p hp
   simp only [eU, decide_eq_true_eq] at this
   rw [G.T.builtins p.1 this.2]; exact this.1
  ·have hn := zL e
   have hl := (bG.mp hn).1
   have hl : i < 21 := by simpa [gK] using hl
   by_cases i20 : i = 20
   ·subst i20
    have : n = ("has_domains" : ac) := by
     have : gK[20]? = some ("has_domains" : ac) := rfl
     rw [this] at hn; exact (aC hn).symm
    subst this
    obtain ⟨n1, a, x1, x2, x3⟩ := wn G (i := 1) (by trivial)
    have : n1 = ("has" : ac) := by
     have z : gK[1]? = some ("has" : ac) := rfl
     rw [z] at x1; exact (aC x1).symm
    subst this
    exact ⟨a, y2.trans x2, x3⟩
   ·obtain ⟨n1, a, x1, x2, x3⟩ := wn G (i := i) (by trivial)
    rw [hn] at x1; cases x1
    rw [if_neg i20]
    exact ⟨a, x2, x3⟩
  ·have hn := zL e
   have hl := (bG.mp hn).1
   have hl : i < 2 := by simpa [lY] using hl
   have : i = 0 \/ i = 1 := by trivial
   rcases this with rfl | rfl
   ·have : n = ("Nogoods" : ac) := (aC hn).symm
    subst this; exact hb
   ·have : n = ("Store" : ac) := (aC hn).symm
    subst this; exact hs
 ·have this := F6 e
  rcases this with ⟨rfl, rfl⟩ | ⟨rfl, rfl⟩
  ·exact ⟨by decide, meths 0 0 "__init__" rfl⟩
  ·exact ⟨by decide, meths 10 1 "__init__" rfl⟩
 ·have hm := NQ e
  have ok := bJ.mp Lj _ hm
  simp only [eU, decide_eq_true_eq] at ok
  obtain ⟨⟨⟨⟨⟨o1, o2⟩, o3⟩, o4⟩, o5⟩, o6⟩ := ok
  cases hx : mT[f - 20]? with
  | none => rw [hx] at o4; simp at o4
  | some x =>
   rw [hx] at o4 o5
   simp only [dN, d9] at o4 o5
   obtain ⟨c', n⟩ := x
   simp only at o4 o5
   subst o4
   rw [<-o5] at o6
   obtain ⟨a, z1, z2, z3⟩ := meths (f - 20) c' n hx
   rw [show 20 + (f - 20) = f by trivial] at z2
   exact ⟨n, a, o5.symm, by simpa using o6, z1, z2, z3⟩
 ·obtain ⟨n1, a, x1, x2, x3⟩ := wn G (i := 19) (by trivial)
  have : n1 = ("law" : ac) := by
   have z : gK[19]? = some ("law" : ac) := rfl
   rw [z] at x1; exact (aC x1).symm
  subst this
  exact ⟨a, x2, x3⟩
end
end
section
theorem NZ {R : xW} {d : WData} (h : rg R d .int = true) : ∃ i, d = .int i := by
 cases d <;> first | exact ⟨_, rfl⟩ | exact aY (show false = true from h)
theorem LB {R : xW} {d : WData} {s : WShape} (h : rg R d (.list s) = true) : ∃ xs, d = .list xs /\ DK R xs s = true := by
 cases d <;> first | exact ⟨_, rfl, (Bool.or_false _).symm.trans h⟩ | exact aY (show false = true from h)
theorem L8 {R : xW} : ∀ {xs : List WData}, DK R xs .int = true -> ∃ is : List Int, xs = is.map WData.int := by
 intro xs
 induction xs with
 | nil =>
  intro _
  exact ⟨[], rfl⟩
 | cons x xs iH =>
  intro h
  have h := bk.mp (show (rg R x .int && DK R xs .int) = true from h)
  obtain ⟨i, rfl⟩ := NZ h.1
  obtain ⟨is, rfl⟩ := iH h.2
  exact ⟨i :: is, rfl⟩
theorem Iw {args : List WData} (h : eQ.claim.pre args = true) : ∃ is : List Int, args = [.list (is.map WData.int)] /\ is.length <= 63 := by
 have h : (DL [] args [.list .int] && (w8.pre).holds [] { args := args }) = true := h
 obtain ⟨h1, h2⟩ := bk.mp h
 rcases args with _ | ⟨d, _ | ⟨d2, r⟩⟩
 ·exact aY (show false = true from h1)
 ·obtain ⟨xs, rfl, hx⟩ := LB (bk.mp (show (rg [] d (.list .int) && DL [] [] []) = true from h1)).1
  obtain ⟨is, rfl⟩ := L8 hx
  refine ⟨is, rfl, ?_⟩
  have h2 : (xX [] (.and (.not (.lt (.lit (.int 63)) (.len (.arg 0)))) (.lit (.bool true))) { args := [.list (is.map WData.int)] }) = true := h2
  simp only [xX, WTm.value, eW, aM] at h2
  have e : PySem.W.less? (WData.int 63) (WData.int ((is.length : Nat) : Int)) = some (decide ((63 : Int) < ((is.length : Nat) : Int))) := rfl
  by_cases c : (63 : Int) < ((is.length : Nat) : Int)
  ·rw [decide_eq_true c] at e
   rw [e] at h2
   simp at h2
  ·trivial
 ·exact aY (show false = true from (bk.mp (show (rg [] d (.list .int) && DL [] (d2 :: r) []) = true from h1)).2)
theorem H7 {R : xW} {cl : ac -> Option ak} {h : ao} {σ : Tk} {is : List Int} : ∀ {vs : List aa} {as : List ak}, ReadsAllW R cl h vs (is.map WData.int) as -> an σ h (is.map V.int) vs := by
 induction is with
 | nil => intro vs as r; cases r; exact an.nil
 | cons i is ih =>
  intro vs as r
  cases r with
  | cons r1 r2 =>
   refine an.cons ?_ (ih r2)
   cases r1 with
   | int _ t => exact ⟨t, rfl⟩
theorem KJ (args : List WData) : eQ.claim.post args (.bool true) args = true := by
 show (rg [] (.bool true) .bool && xX [] (WTm.res.eq (.lit (.bool true))) { args := args, res := some (.bool true), after := args }) = true
 refine bk.mpr ⟨rfl, ?_⟩
 simp only [xX, WTm.value, W.same, beq_self_eq_true, dN]
theorem RI {d : DefRec} (hdn : d.name = ("law" : ac)) (ZM : List (ac × Expr)) : WalkO qv L0 (XL qv []) Jj.says eQ d ZM fun f vs => PySem.call f vs := by
 intro w TA Sd mg mb G Y a o pm cd W6 dV kV ho hd hcd hD YQ hg args R8 as XH aaa Z2 Ub S9
 obtain ⟨is, rfl, Y8⟩ := Iw XH
 obtain ⟨cls, W, a', Um, hf⟩ := Nt G Y
 rw [hdn, Um] at YQ
 cases YQ
 cases Z2 with
 | cons r1 r2 =>
  cases r2
  obtain ⟨l, ol, YE, n, ai, rfl, hl, hc, U0, ra, rfl⟩ := readsW_list_open r1
  have Zq : an ⟨[], []⟩ Sd.heap (is.map V.int) YE.toList := H7 ra
  have lc := MV (n := 0) (H := []) Y8
  rw [z4] at lc
  obtain ⟨x, H', e, rfl⟩ := AW lc
  have S : aq eQ.prog w cls Sd.heap ⟨[], []⟩ [] Sd.heap := ⟨fun u' u' e => e, rfl, by simp [Tk.all], by simp [Tk.all], by simp, by simp⟩
  have al := (IR (prog := eQ.prog) (w := w) W 160).c
  have rm : aR callerA 160 := ⟨by decide, by decide, rfl⟩
  refine al 19 _ _ _ _ e callerA ⟨[], []⟩ Sd a [.ref l] hf rm S ?_ _ _ fun RZ s' v N r => ?_
  ·simp only [an, VR]
   exact ⟨_, _, rfl, ⟨l, YE, rfl, by simp [Tk.all], ⟨ol, hl, hc, n, U0⟩, by simp; trivial, Zq, .inl (by simp [V.isInt])⟩, rfl⟩
  ·simp only [VR] at r
   subst r
   refine GoodW.toG ⟨.inl ⟨.bool true, .bool true, [], rfl, fun u' => rfl, .bool true, KJ _, fun u' => ⟨.nil, by simp⟩⟩, fun b o e => N.grow.keep b o (by simp) e, N.os, N.gens.trans hg⟩
end
end M.Tactic
theorem PySem.Challenge.cw_nz0023_01_holds : PySem.Challenge.rw_nz0023_01.Holds :=
  holds_law M.Tactic.RN fun said => holds_open M.Tactic.RC M.Tactic.Jj.of M.Tactic.Jj.keeps (fun s e => xl_of s (Bool.and_eq_true_iff.mp e).1) XL.keeps M.Tactic.RM M.Tactic.Rw M.Tactic.RK (fun s e => recFacts_of (Bool.and_eq_true_iff.mp e).2) M.Tactic.RB
    said M.Tactic.Rz M.Tactic.RF M.Tactic.RL (M.Tactic.RI M.Tactic.RJ [])
