import PyProof.Rows.All
import Wide.All
import OpenK.AllK
import Wide.FinOn
import HandS.ForMost
import HandS.Exc
import HandS.ExcInit
import HandS.ExcIs
import HandS.ExcField
import HandS.WordsExc
import HandS.IsInst
import HandS.Walk
import HandS.RaiseMore
import HandS.SortInts
import HandS.Wide
import HandS.ExcOwn
import PyProof.ReprRoads
import HandS.ExcValue
import KE.KExcIs
import PySem.Challenge.RW_mergeunits_k04_whole_any_tree_of_merges
/-! Mergeunits, law k04: the plain mathematics. mrg is the merge of two lists (not sorted) by two pointers; foldM merges several from left to right. -/
namespace MU
def mrg (xs ys : List Int) : List Int := List.merge xs ys fun a b => decide (a ≤ b)
theorem mrg_nl (ys : List Int) : mrg [] ys = ys := by simp [mrg]
theorem mrg_nr (xs : List Int) : mrg xs [] = xs := by simp [mrg]
theorem mrg_lt {x y : Int} (xs ys : List Int) (h : y < x) : mrg (x :: xs) (y :: ys) = y :: mrg (x :: xs) ys := by
  unfold mrg
  rw [List.cons_merge_cons]
  have : decide (x ≤ y) = false := decide_eq_false (by omega)
  simp [this]
theorem mrg_ge {x y : Int} (xs ys : List Int) (h : ¬ y < x) : mrg (x :: xs) (y :: ys) = x :: mrg xs (y :: ys) := by
  unfold mrg
  rw [List.cons_merge_cons]
  have : decide (x ≤ y) = true := decide_eq_true (by omega)
  simp [this]
theorem mrg_len (xs ys : List Int) : (mrg xs ys).length = xs.length + ys.length := by
  unfold mrg
  exact List.length_merge ..
theorem mrg_mem {xs ys : List Int} {z : Int} (h : z ∈ mrg xs ys) : z ∈ xs ∨ z ∈ ys := by
  unfold mrg at h
  exact List.mem_merge.mp h
theorem mrg_assoc_aux : ∀ (n : Nat) (a b c : List Int), a.length + b.length + c.length ≤ n → mrg (mrg a b) c = mrg a (mrg b c)
  | _, [], b, c, _ => by rw [mrg_nl, mrg_nl]
  | _, x :: a, [], c, _ => by rw [mrg_nr, mrg_nl]
  | _, x :: a, y :: b, [], _ => by rw [mrg_nr, mrg_nr]
  | 0, x :: a, y :: b, z :: c, h => by simp at h
  | n + 1, x :: a, y :: b, z :: c, h => by
    have i1 := mrg_assoc_aux n a (y :: b) (z :: c) (by simp at h ⊢; omega)
    have i2 := mrg_assoc_aux n (x :: a) b (z :: c) (by simp at h ⊢; omega)
    have i3 := mrg_assoc_aux n (x :: a) (y :: b) c (by simp at h ⊢; omega)
    by_cases h1 : y < x
    · rw [mrg_lt a b h1] at i3 ⊢
      by_cases h2 : z < y
      · rw [mrg_lt _ c h2, mrg_lt b c h2, mrg_lt a _ (by omega), i3]
      · rw [mrg_ge _ c h2, mrg_ge b c h2, mrg_lt a _ h1, i2]
    · rw [mrg_ge a b h1] at i3 ⊢
      by_cases h2 : z < x
      · rw [mrg_lt _ c h2, mrg_lt b c (by omega), mrg_lt a _ h2, i3]
      · rw [mrg_ge _ c h2, i1]
        by_cases h3 : z < y
        · rw [mrg_lt b c h3, mrg_ge a _ h2]
        · rw [mrg_ge b c h3, mrg_ge a _ h1]
theorem mrg_assoc (a b c : List Int) : mrg (mrg a b) c = mrg a (mrg b c) := mrg_assoc_aux _ a b c (Nat.le_refl _)
/-- several lists, merged from left to right -/
def foldM (xss : List (List Int)) : List Int := xss.foldl mrg []
theorem foldM_from (a : List Int) : ∀ xss : List (List Int), xss.foldl mrg a = mrg a (foldM xss)
  | [] => by simp [foldM, mrg_nr]
  | x :: r => by
    have h1 := foldM_from (mrg a x) r
    have h2 := foldM_from (mrg [] x) r
    unfold foldM
    rw [List.foldl_cons, List.foldl_cons, h1, h2, mrg_nl, mrg_assoc]
theorem foldM_nil : foldM [] = [] := rfl
theorem foldM_one (x : List Int) : foldM [x] = x := mrg_nl x
theorem foldM_append (as bs : List (List Int)) : foldM (as ++ bs) = mrg (foldM as) (foldM bs) := by
  unfold foldM
  rw [List.foldl_append, foldM_from]
  rfl
theorem foldM_take_succ {xss : List (List Int)} {i : Nat} {x : List Int} (h : xss[i]? = some x) : foldM (xss.take (i + 1)) = mrg (foldM (xss.take i)) x := by
  rw [List.take_add_one, h, foldM_append]
  exact congrArg _ (foldM_one x)
theorem foldM_len : ∀ {xss : List (List Int)} {m : Nat}, (∀ x ∈ xss, x.length ≤ m) → (foldM xss).length ≤ xss.length * m
  | [], _, _ => by simp [foldM]
  | x :: r, m, h => by
    have h1 := foldM_len (xss := r) (m := m) fun y hy => h y (List.mem_cons_of_mem _ hy)
    have h2 := h x List.mem_cons_self
    have e : foldM (x :: r) = mrg x (foldM r) := by
      have := foldM_append [x] r
      rw [foldM_one] at this
      exact this
    rw [e, mrg_len, List.length_cons, Nat.succ_mul]
    omega
end MU
set_option Elab.async false
set_option linter.all false
set_option maxRecDepth 100000
set_option maxHeartbeats 4000000
namespace MU
open PySem L2
/-! ### the text by places -/
def top (i : Nat) : Stmt := PySem.Challenge.pw_mergeunits_k04_whole_any_tree_of_merges.main.body.getD i (.Pass ⟨0, 0, 0, 0⟩)
abbrev sListI : Stmt := inClass (top 1) 0
abbrev sListsI : Stmt := inClass (top 2) 0
abbrev sWhole : Stmt := top 4
abbrev sCkL : Stmt := top 5
abbrev sCkLs : Stmt := top 6
abbrev sMgd : Stmt := top 7
abbrev sMg : Stmt := top 8
abbrev sMgdA : Stmt := top 9
abbrev sMgA : Stmt := top 10
abbrev sDraws : Stmt := top 12
abbrev sNext : Stmt := top 13
abbrev sDrawn : Stmt := top 14
abbrev sRow : Stmt := top 15
abbrev sLMgd : Stmt := top 16
abbrev sTree : Stmt := top 17
abbrev sKept : Stmt := top 18
abbrev sTwelve : Stmt := top 19
abbrev sRight : Stmt := top 20
abbrev sLaw : Stmt := top 21
/-- the built-ins' names are still the built-ins' -/
structure Gs (mg : Str → Option Value) : Prop where
  isi : mg "isinstance" = none
  int : mg "int" = none
  bool : mg "bool" = none
  list : mg "list" = none
  enumr : mg "enumerate" = none
  all : mg "all" = none
  range : mg "range" = none
  sorted : mg "sorted" = none
  sum : mg "sum" = none
  len : mg "len" = none
  repr : mg "repr" = none
  str : mg "str" = none
  tuple : mg "tuple" = none
  verr : mg "ValueError" = none
/-! ### small facts -/
abbrev LI (ns : List Int) : HO := .lst (ns.map V.int)
theorem small {n : Nat} (h : n ≤ 1000000) : n ≤ sizeLine := Nat.le_trans h (by decide)
theorem same_new {H : Hp} {p : Addr} (h : H p = none) (o : HO) : Same H (upd H p o) := fun b u q => by rw [upd_ne (ne_of_none q h)]; exact q
theorem dp_all {K : PySem.W.Frag} {H : Hp} : ∀ ns : List Int, DpAll K H (ns.map V.int) (ns.map PyData.int)
  | [] => .nil
  | n :: r => .cons (.int n) (dp_all r)
theorem dp_ints {K : PySem.W.Frag} {H : Hp} {a : Addr} {ns : List Int} (h : H a = some (LI ns)) : Dp K H (.ref a) (.list (ns.map PyData.int)) := .lst (SqL.of h) (dp_all ns)
theorem depth_ints : ∀ ns : List Int, PyData.depthAll (ns.map PyData.int) = 0
  | [] => rfl
  | n :: r => by
    show max (PyData.depth (.int n)) (PyData.depthAll (r.map PyData.int)) = 0
    rw [depth_ints r]; rfl
theorem canLay_ints : ∀ ns : List Int, PyData.canLayAll0 (ns.map PyData.int) = true
  | [] => rfl
  | n :: r => by
    show (PyData.canLay0 (.int n) && PyData.canLayAll0 (r.map PyData.int)) = true
    rw [canLay_ints r]; rfl
theorem shaped_ints (ns : List Int) : SeqAt.shaped (.list (ns.map PyData.int)) = true := by
  unfold SeqAt.shaped
  rw [show PyData.canLay0 (.list (ns.map PyData.int)) = PyData.canLayAll0 (ns.map PyData.int) from rfl, canLay_ints, show PyData.depth (.list (ns.map PyData.int)) = PyData.depthAll (ns.map PyData.int) + 1 from rfl, depth_ints]
  rfl
theorem eqv_ints : ∀ ns ms : List Int, PyData.eqvAll (ns.map PyData.int) (ms.map PyData.int) = decide (ns = ms)
  | [], [] => rfl
  | [], m :: ms => rfl
  | n :: ns, [] => rfl
  | n :: ns, m :: ms => by
    show ((n == m) && PyData.eqvAll (ns.map PyData.int) (ms.map PyData.int)) = _
    rw [eqv_ints ns ms]
    by_cases h : n = m <;> simp [h]
theorem eqv_lists (ns ms : List Int) : PyData.eqv (.list (ns.map PyData.int)) (.list (ms.map PyData.int)) = decide (ns = ms) := eqv_ints ns ms
theorem eqv_nil (ns : List Int) : PyData.eqv (.list (ns.map PyData.int)) (.list []) = decide (ns = []) := eqv_lists ns []
theorem cut_tl {xs : List V} : cutV xs (some 1) none = xs.drop 1 := by
  unfold cutV
  rw [show HT.sIx xs.length 0 (some 1) = min 1 xs.length from HT.sIx_nat xs.length 0 1, HT.sIx_none]
  cases xs with
  | nil => rfl
  | cons x r =>
    have : min 1 (x :: r).length = 1 := by rw [List.length_cons]; omega
    rw [this]
    exact List.take_of_length_le (by rw [List.length_drop]; exact Nat.le_refl _)
theorem cut_hd {xs : List V} {n : Nat} : cutV xs none (some (n : Int)) = xs.take n := by
  unfold cutV
  rw [HT.sIx_nat, HT.sIx_none, List.drop_zero, Nat.sub_zero]
  by_cases h : n ≤ xs.length
  · rw [Nat.min_eq_left h]
  · rw [Nat.min_eq_right (by omega), List.take_length, List.take_of_length_le (by omega)]
theorem cut_from {xs : List V} {n : Nat} : cutV xs (some (n : Int)) none = xs.drop n := by
  unfold cutV
  rw [HT.sIx_nat, HT.sIx_none]
  by_cases h : n ≤ xs.length
  · rw [Nat.min_eq_left h]
    exact List.take_of_length_le (by rw [List.length_drop]; exact Nat.le_refl _)
  · rw [Nat.min_eq_right (by omega), List.drop_length, List.drop_eq_nil_of_le (by omega), List.take_nil]
/-! ### is_whole -/
def flatS : V → Bool
  | .non => true | .bl _ => true | .int _ => true | .str _ => true
  | _ => false
def whV : V → Bool
  | .int _ => true
  | _ => false
def spWhole : Sp := fun vs H Q _ => ∃ v : V, vs = [v] ∧ flatS v = true ∧ Q (.bl (whV v)) H
section
variable {P : Program} {w : World} {K : PySem.W.Frag} {mg : Str → Option Value} {base : Heap} {f g g2 : Addr} {fd gd gd2 : FuncData}
theorem scWhole : FnScope ["thing"] ["thing"] (defScope sWhole) := ⟨rfl, rfl, rfl, by decide +kernel, rfl, by decide +kernel, by decide +kernel⟩
theorem ok_whole (F : Fun K "is_whole" "is_whole" sWhole f fd) (T : Gs mg) : FnOk P w K mg base CX0 1 f fd ["thing"] spWhole := by
  refine F.ok scWhole (fun vs H Q E h => ?_) (fun cdv A outer s H vs Q E hr h => ?_)
  · obtain ⟨v, rfl, _⟩ := h
    rfl
  obtain ⟨v, rfl, hv, q⟩ := h
  refine ⟨_, pss_one (ps_ret (pe_and (pe_callB call_isi (by rfl) T.isi (by decide +kernel) (pa_cons (pv 0) (pa_cons (pe_bltn (v := .ty "int") (u := .type "int") (by rfl) T.int (by decide +kernel) rfl) pa_nil)))
    (pe_one (pe_not (pe_callB call_isi (by rfl) T.isi (by decide +kernel) (pa_cons (pv 0) (pa_cons (pe_bltn (v := .ty "bool") (u := .type "bool") (by rfl) T.bool (by decide +kernel) rfl) pa_nil))))))), ?_⟩
  cases v with
  | non => exact ⟨_, rfl, _, _, _, _, false, rfl, .ty "int", .base .non, kit_ty (by decide +kernel), _, rfl, iteF q⟩
  | str x => exact ⟨_, rfl, _, _, _, _, false, rfl, .ty "int", .base (.str x), kit_ty (by decide +kernel), _, rfl, iteF q⟩
  | bl b => exact ⟨_, rfl, _, _, _, _, true, rfl, .ty "int", .base (.bl b), kit_ty (by decide +kernel), _, rfl, iteT ⟨_, rfl, _, _, _, _, true, rfl, .ty "bool", .base (.bl b), kit_ty (by decide +kernel), _, rfl, q⟩⟩
  | int i => exact ⟨_, rfl, _, _, _, _, true, rfl, .ty "int", .base (.int i), kit_ty (by decide +kernel), _, rfl, iteT ⟨_, rfl, _, _, _, _, false, rfl, .ty "bool", .base (.int i), kit_ty (by decide +kernel), _, rfl, q⟩⟩
  | byt b => cases hv
  | flt b => cases hv
  | ref a => cases hv
  | ty n => cases hv
end
end MU
namespace MU
open PySem L2
section
variable {P : Program} {w : World} {K : PySem.W.Frag} {mg : Str → Option Value} {base : Heap} {f g g2 : Addr} {fd gd gd2 : FuncData}
theorem set_get {σ : St} {i : Nat} {v : Option V} (h : i < σ.length) : (σ.set i v)[i]? = some v := by rw [List.getElem?_set_self h]
theorem ints_get {ns : List Int} {i : Nat} {x : V} (h : (ns.map V.int)[i]? = some x) : ∃ n, ns[i]? = some n ∧ x = .int n := by
  rw [List.getElem?_map] at h
  obtain ⟨n, h1, h2⟩ := Option.map_eq_some_iff.mp h
  exact ⟨n, h1, h2.symm⟩
/-! ### check_list of a list of whole numbers -/
def spCkL : Sp := fun vs H Q _ => ∃ (a : Addr) (ns : List Int), vs = [.ref a] ∧ H a = some (LI ns) ∧ ∀ H', Same H H' → Q .non H'
theorem scCkL : FnScope ["values", "place", "value"] ["values"] (defScope sCkL) := ⟨rfl, rfl, rfl, by decide +kernel, rfl, by decide +kernel, by decide +kernel⟩
theorem ok_ckl (F : Fun K "check_list" "check_list" sCkL f fd) (T : Gs mg) (G : FnOk P w K mg base CX0 1 g gd ["thing"] spWhole) (bG : Binds K gd ["thing"] []) (kG : PySem.W.keepIn K (.ref g) = true) (mG : mg "is_whole" = some (.ref g)) :
    FnOk P w K mg base CX0 2 f fd ["values"] spCkL := by
  refine F.ok scCkL (fun vs H Q E h => ?_) (fun cdv A outer s H vs Q E hr h => ?_)
  · obtain ⟨a, ns, rfl, _⟩ := h
    rfl
  obtain ⟨a, ns, rfl, hH, q⟩ := h
  refine ⟨_, pss_cons (ps_if (pt_not (pt_val (pe_callB call_isi (by rfl) T.isi (by decide +kernel) (pa_cons (pv 0) (pa_cons (pe_bltn (v := .ty "list") (u := .type "list") (by rfl) T.list (by decide +kernel) rfl) pa_nil))))) (pss_one ps_never) pss_nil)
    (pss_one (ps_for PassesOwn.never rfl (pi_enum (by rfl) T.enumr (pa_cons (pv 0) pa_nil)) (pg_tup rfl (pgs_cons (pg_name (i := 1) scCkL.nd rfl (.inl rfl)) (pgs_cons (pg_name (i := 2) scCkL.nd rfl (.inl rfl)) pgs_nil)))
      (pss_one (ps_if (pt_not (pt_val (pe_call G hr rfl mG kG bG .nil pass0 (pa_cons (pv 2) pa_nil)))) (pss_one ps_never) pss_nil)))), ?_⟩
  refine ⟨_, rfl, _, _, _, _, true, rfl, .ty "list", .base (.lst hH), kit_ty (by decide +kernel), true, rfl, iteF ?_⟩
  refine ⟨_, rfl, a, ns.map V.int, rfl, SqL.of hH, ?_⟩
  refine for_it walk_enum (fun i σ H' => σ.length = 3 ∧ Same H H') ⟨rfl, Same.refl H⟩ (fun i σ H' _ p => SqL.of (p.2 _ _ hH)) (fun i x σ H1 H2 hi p y => ?_) (fun σ H' p => q H' p.2)
  obtain ⟨T', x1, x2, rfl, hT, rfl, _, h2⟩ := y
  obtain ⟨n, hn, rfl⟩ := ints_get h2
  have S2 : Same H (upd H1 T' (.tup [x1, .int n])) := p.2.trans (same_new hT _)
  refine ⟨T', _, rfl, SqT.of upd_same, rfl, _, _, rfl, _, _, rfl, rfl, ?_⟩
  refine ⟨_, set_get (by rw [List.length_set, p.1]; decide), _, rfl, rfl, true, rfl, iteF ⟨?_, S2⟩⟩
  rw [List.length_set, List.length_set]
  exact p.1
/-! ### merged: the two pointers -/
def spMgd : Sp := fun vs H Q _ => ∃ (a b : Addr) (xs ys : List Int), vs = [.ref a, .ref b] ∧ H a = some (LI xs) ∧ H b = some (LI ys) ∧ xs.length + ys.length ≤ 1000000 ∧
  ∀ (p : Addr) (H' : Hp), Same H H' → H p = none → H' p = some (LI (mrg xs ys)) → Q (.ref p) H'
theorem scMgd : FnScope ["one", "other", "told", "first", "second"] ["one", "other"] (defScope sMgd) := ⟨rfl, rfl, rfl, by decide +kernel, rfl, by decide +kernel, by decide +kernel⟩
/-- the loop's word -/
def wMgd (H : Hp) (xs ys : List Int) (σ : St) (H' : Hp) : Prop := ∃ (a b t fi se : Addr) (as bs ts : List Int), σ = [some (.ref a), some (.ref b), some (.ref t), some (.ref fi), some (.ref se)] ∧ Same H H' ∧ H t = none ∧
  H' t = some (LI ts) ∧ H' fi = some (LI as) ∧ H' se = some (LI bs) ∧ ts ++ mrg as bs = mrg xs ys ∧ ts.length + as.length + bs.length = xs.length + ys.length
/-- its measure: what is left -/
def muM (σ : St) (H : Hp) : Nat := match σ with
  | [_, _, _, some (.ref fi), some (.ref se)] => (match H fi with | some (.lst l) => l.length | _ => 0) + (match H se with | some (.lst l) => l.length | _ => 0)
  | _ => 0
theorem LI_append (as bs : List Int) : as.map V.int ++ bs.map V.int = (as ++ bs).map V.int := (List.map_append ..).symm
theorem mgd_end {H H2 : Hp} {xs ys as bs ts : List Int} {a b t fi se : Addr} {D : Ends} (S : Same H H2) (hT : H2 t = some (LI ts)) (hF : H2 fi = some (LI as)) (hS : H2 se = some (LI bs)) (hm : ts ++ as ++ bs = mrg xs ys) (hz : (mrg xs ys).length ≤ 1000000)
    (q : ∀ (p : Addr) (H' : Hp), Same H H' → H p = none → H' p = some (LI (mrg xs ys)) → D.rt (.ref p) H') :
    tRet (tOp rCat (tOp rCat (tVar 2) (tVar 3)) (tVar 4)) D [some (.ref a), some (.ref b), some (.ref t), some (.ref fi), some (.ref se)] H2 := by
  have hl : ts.length + as.length + bs.length ≤ 1000000 := by
    have := congrArg List.length hm
    rw [List.length_append, List.length_append] at this
    omega
  refine ⟨_, rfl, _, rfl, t, fi, _, _, rfl, rfl, hT, hF, small (by rw [List.length_map, List.length_map]; omega), fun r nr => ?_⟩
  have S1 := same_new nr (.lst (ts.map V.int ++ as.map V.int))
  refine ⟨_, rfl, r, se, _, _, rfl, rfl, upd_same, S1 _ _ hS, small (by rw [List.length_append, List.length_map, List.length_map, List.length_map]; omega), fun r2 nr2 => ?_⟩
  refine q r2 _ (S.trans (S1.trans (same_new nr2 _))) ((S.trans S1).free nr2) ?_
  rw [upd_same, LI_append, LI_append, hm]
theorem ok_mgd (F : Fun K "merged" "merged" sMgd f fd) : FnOk P w K mg base CX0 1 f fd ["one", "other"] spMgd := by
  refine F.ok scMgd (fun vs H Q E h => ?_) (fun cdv A outer s H vs Q E hr h => ?_)
  · obtain ⟨a, b, xs, ys, rfl, _⟩ := h
    rfl
  obtain ⟨a, b, xs, ys, rfl, hA, hB, hz, q⟩ := h
  have hz' : (mrg xs ys).length ≤ 1000000 := by rw [mrg_len]; exact hz
  refine ⟨_, pss_cons (ps_set (i := 2) scMgd.nd rfl (.inl rfl) (pe_lst pa_nil))
    (pss_cons (ps_par (i := 3) (j := 4) rfl scMgd.nd rfl rfl (by decide) rfl rfl (pa_cons (pv 0) (pa_cons (pv 1) pa_nil)) (by rfl))
    (pss_cons (ps_while PassesOwn.never (PW.pt (pw_and (pt_cmpR (op_neD hr.units) (pv 3) (pe_lst pa_nil) (nomark _)) (pw_and1 (pt_cmpR (op_neD hr.units) (pv 4) (pe_lst pa_nil) (nomark _)))))
      (pss_one (ps_if (pt_cmpR op_lt (pe_ix ix_list (pv 4) pe_int (fun _ _ => rfl)) (pe_ix ix_list (pv 3) pe_int (fun _ _ => rfl)) (nomark _))
        (pss_one (ps_par (i := 2) (j := 4) rfl scMgd.nd rfl rfl (by decide) rfl rfl (pa_cons (pe_op op_cat (pv 2) (pe_slice sl_list (pv 4) po_none (po_some pe_int))) (pa_cons (pe_slice sl_list (pv 4) (po_some pe_int) po_none) pa_nil)) (by rfl)))
        (pss_one (ps_par (i := 2) (j := 3) rfl scMgd.nd rfl rfl (by decide) rfl rfl (pa_cons (pe_op op_cat (pv 2) (pe_slice sl_list (pv 3) po_none (po_some pe_int))) (pa_cons (pe_slice sl_list (pv 3) (po_some pe_int) po_none) pa_nil)) (by rfl))))))
    (pss_one (ps_ret (pe_op op_cat (pe_op op_cat (pv 2) (pv 3)) (pv 4)))))), ?_⟩
  refine ⟨(by show 0 ≤ sizeLine; decide), fun t ht => ?_⟩
  refine ⟨_, rfl, _, rfl, _, _, rfl, ?_⟩
  refine while_by (wMgd H xs ys) muM ?_ (fun σ H1 p => ?_) ?_
  · exact ⟨a, b, t, a, b, xs, ys, [], rfl, same_new ht _, ht, upd_same, (same_new ht _ _ _ hA), (same_new ht _ _ _ hB), rfl, by simp⟩
  · obtain ⟨a, b, t, fi, se, as, bs, ts, rfl, S, ht0, hT, hF, hS, em, ez⟩ := p
    refine ⟨_, rfl, (by show 0 ≤ sizeLine; decide), fun p1 np1 => ?_⟩
    have S1 := same_new np1 (.lst [])
    refine ⟨_, .list [], dp_ints (S1 _ _ hF), .lst (SqL.of upd_same) .nil, shaped_ints as, shaped_ints [], _, rfl, ?_⟩
    cases as with
    | nil => exact iteF (iteF (mgd_end (S.trans S1) (S1 _ _ hT) (S1 _ _ hF) (S1 _ _ hS) (by rw [List.append_nil, ← em, mrg_nl]) hz' q))
    | cons x as =>
      refine iteT ?_
      refine ⟨_, rfl, (by show 0 ≤ sizeLine; decide), fun p2 np2 => ?_⟩
      have S2 := same_new np2 (.lst [])
      have S12 := S1.trans S2
      refine ⟨_, .list [], dp_ints (S12 _ _ hS), .lst (SqL.of upd_same) .nil, shaped_ints bs, shaped_ints [], _, rfl, ?_⟩
      cases bs with
      | nil => exact iteF (mgd_end (S.trans S12) (S12 _ _ hT) (S12 _ _ hF) (S12 _ _ hS) (by rw [List.append_nil, ← em, mrg_nr]) hz' q)
      | cons y bs =>
        refine iteT ?_
        refine ⟨_, rfl, se, _, 0, _, rfl, rfl, SqL.of (S12 _ _ hS), atI_nat (j := 0) rfl, ?_⟩
        refine ⟨_, rfl, fi, _, 0, _, rfl, rfl, SqL.of (S12 _ _ hF), atI_nat (j := 0) rfl, ?_⟩
        refine ⟨_, _, rfl, rfl, _, rfl, ?_⟩
        have hz2 : ts.length + (as.length + 1) + (bs.length + 1) ≤ 1000000 := by
          have h1 : (x :: as).length = as.length + 1 := rfl
          have h2 : (y :: bs).length = bs.length + 1 := rfl
          omega
        refine ite2 (fun c => ?_) (fun c => ?_)
        · have c' : y < x := of_decide_eq_true c
          refine ⟨_, rfl, _, rfl, _, rfl, se, _, rfl, SqL.of (S12 _ _ hS), fun p3 np3 => ?_⟩
          have S3 := S12.trans (same_new np3 (.lst (cutV ((y :: bs).map V.int) none (some 1))))
          refine ⟨t, p3, _, _, rfl, rfl, S3 _ _ hT, upd_same, small (by rw [List.length_map]; have := cutV_length ((y :: bs).map V.int) none (some 1); rw [List.length_map, List.length_cons] at this; omega), fun p4 np4 => ?_⟩
          have S4 := S3.trans (same_new np4 (.lst (ts.map V.int ++ cutV ((y :: bs).map V.int) none (some 1))))
          refine ⟨_, rfl, _, rfl, se, _, rfl, SqL.of (S4 _ _ hS), fun p5 np5 => ?_⟩
          have S5 := S4.trans (same_new np5 (.lst (cutV ((y :: bs).map V.int) (some 1) none)))
          have n4 : p4 ≠ p5 := ne_of_none (upd_same (H := upd (upd (upd H1 p1 (.lst [])) p2 (.lst [])) p3 (.lst (cutV ((y :: bs).map V.int) none (some 1)))) (a := p4) (o := .lst (ts.map V.int ++ cutV ((y :: bs).map V.int) none (some 1)))) np5
          have hT5 : (upd (upd (upd (upd (upd H1 p1 (.lst [])) p2 (.lst [])) p3 (.lst (cutV ((y :: bs).map V.int) none (some 1)))) p4 (.lst (ts.map V.int ++ cutV ((y :: bs).map V.int) none (some 1)))) p5 (.lst (cutV ((y :: bs).map V.int) (some 1) none))) p4 = some (LI (ts ++ [y])) := by
            rw [upd_ne n4, upd_same, show cutV ((y :: bs).map V.int) none (some 1) = ((y :: bs).map V.int).take 1 from cut_hd (n := 1)]
            simp
          have hS5 : (upd (upd (upd (upd (upd H1 p1 (.lst [])) p2 (.lst [])) p3 (.lst (cutV ((y :: bs).map V.int) none (some 1)))) p4 (.lst (ts.map V.int ++ cutV ((y :: bs).map V.int) none (some 1)))) p5 (.lst (cutV ((y :: bs).map V.int) (some 1) none))) p5 = some (LI bs) := by
            rw [upd_same, cut_tl]
            rfl
          refine ⟨_, _, rfl, ⟨a, b, p4, fi, p5, x :: as, bs, ts ++ [y], rfl, S.trans S5, (S.trans S3).free np4, hT5, S5 _ _ hF, hS5, ?_, ?_⟩, ?_⟩
          · rw [← em, mrg_lt _ _ c', List.append_assoc]
            rfl
          · rw [← ez, List.length_append]
            show ts.length + 1 + (as.length + 1) + bs.length = ts.length + (as.length + 1) + (bs.length + 1)
            omega
          · show muM [some (.ref a), some (.ref b), some (.ref p4), some (.ref fi), some (.ref p5)] _ < muM [some (.ref a), some (.ref b), some (.ref t), some (.ref fi), some (.ref se)] _
            unfold muM
            simp only [hS5, S5 _ _ hF, hF, hS, List.length_map, List.length_cons]
            exact Nat.add_lt_add_left (Nat.lt_succ_self _) _
        · have c' : ¬ y < x := of_decide_eq_false (Bool.eq_false_iff.mpr c)
          refine ⟨_, rfl, _, rfl, _, rfl, fi, _, rfl, SqL.of (S12 _ _ hF), fun p3 np3 => ?_⟩
          have S3 := S12.trans (same_new np3 (.lst (cutV ((x :: as).map V.int) none (some 1))))
          refine ⟨t, p3, _, _, rfl, rfl, S3 _ _ hT, upd_same, small (by rw [List.length_map]; have := cutV_length ((x :: as).map V.int) none (some 1); rw [List.length_map, List.length_cons] at this; omega), fun p4 np4 => ?_⟩
          have S4 := S3.trans (same_new np4 (.lst (ts.map V.int ++ cutV ((x :: as).map V.int) none (some 1))))
          refine ⟨_, rfl, _, rfl, fi, _, rfl, SqL.of (S4 _ _ hF), fun p5 np5 => ?_⟩
          have S5 := S4.trans (same_new np5 (.lst (cutV ((x :: as).map V.int) (some 1) none)))
          have n4 : p4 ≠ p5 := ne_of_none (upd_same (H := upd (upd (upd H1 p1 (.lst [])) p2 (.lst [])) p3 (.lst (cutV ((x :: as).map V.int) none (some 1)))) (a := p4) (o := .lst (ts.map V.int ++ cutV ((x :: as).map V.int) none (some 1)))) np5
          have hT5 : (upd (upd (upd (upd (upd H1 p1 (.lst [])) p2 (.lst [])) p3 (.lst (cutV ((x :: as).map V.int) none (some 1)))) p4 (.lst (ts.map V.int ++ cutV ((x :: as).map V.int) none (some 1)))) p5 (.lst (cutV ((x :: as).map V.int) (some 1) none))) p4 = some (LI (ts ++ [x])) := by
            rw [upd_ne n4, upd_same, show cutV ((x :: as).map V.int) none (some 1) = ((x :: as).map V.int).take 1 from cut_hd (n := 1)]
            simp
          have hF5 : (upd (upd (upd (upd (upd H1 p1 (.lst [])) p2 (.lst [])) p3 (.lst (cutV ((x :: as).map V.int) none (some 1)))) p4 (.lst (ts.map V.int ++ cutV ((x :: as).map V.int) none (some 1)))) p5 (.lst (cutV ((x :: as).map V.int) (some 1) none))) p5 = some (LI as) := by
            rw [upd_same, cut_tl]
            rfl
          refine ⟨_, _, rfl, ⟨a, b, p4, p5, se, as, y :: bs, ts ++ [x], rfl, S.trans S5, (S.trans S3).free np4, hT5, hF5, S5 _ _ hS, ?_, ?_⟩, ?_⟩
          · rw [← em, mrg_ge _ _ c', List.append_assoc]
            rfl
          · rw [← ez, List.length_append]
            show ts.length + 1 + as.length + (bs.length + 1) = ts.length + (as.length + 1) + (bs.length + 1)
            omega
          · show muM [some (.ref a), some (.ref b), some (.ref p4), some (.ref p5), some (.ref se)] _ < muM [some (.ref a), some (.ref b), some (.ref t), some (.ref fi), some (.ref se)] _
            unfold muM
            simp only [hF5, S5 _ _ hS, hF, hS, List.length_map, List.length_cons]
            exact Nat.add_lt_add_right (Nat.lt_succ_self _) _
  · intro σ H Q Q' hQ h
    obtain ⟨v, e, hs, h⟩ := h
    refine ⟨v, e, hs, fun p np => ?_⟩
    obtain ⟨d, e', h1, h2, h3, h4, k, hk, h5⟩ := h p np
    refine ⟨d, e', h1, h2, h3, h4, k, hk, ?_⟩
    cases k with
    | false => exact iteF (hQ _ _ (by simpa using h5))
    | true =>
      refine iteT ?_
      rw [if_pos rfl] at h5
      obtain ⟨v, e, hs, h⟩ := h5
      refine ⟨v, e, hs, fun p np => ?_⟩
      obtain ⟨d, e', h1, h2, h3, h4, k, hk, h5⟩ := h p np
      exact ⟨d, e', h1, h2, h3, h4, k, hk, hQ _ _ h5⟩
end
end MU
namespace MU
open PySem L2
abbrev rf (r : Addr × List Int) : V := .ref r.1
/-- each address holds its list -/
def LLs (H : Hp) (rs : List (Addr × List Int)) : Prop := ∀ r ∈ rs, H r.1 = some (LI r.2)
theorem LLs.same {H H' : Hp} {rs : List (Addr × List Int)} (h : LLs H rs) (S : Same H H') : LLs H' rs := fun r hr => S _ _ (h r hr)
section
variable {P : Program} {w : World} {K : PySem.W.Frag} {mg : Str → Option Value} {base : Heap} {f g g2 : Addr} {fd gd gd2 : FuncData}
/-! ### merge, merged_all -/
theorem scMg : FnScope ["one", "other"] ["one", "other"] (defScope sMg) := ⟨rfl, rfl, rfl, by decide +kernel, rfl, by decide +kernel, by decide +kernel⟩
theorem ok_mg (F : Fun K "merge" "merge" sMg f fd) (G : FnOk P w K mg base CX0 2 g gd ["values"] spCkL) (bG : Binds K gd ["values"] []) (kG : PySem.W.keepIn K (.ref g) = true) (mG : mg "check_list" = some (.ref g))
    (G2 : FnOk P w K mg base CX0 1 g2 gd2 ["one", "other"] spMgd) (bG2 : Binds K gd2 ["one", "other"] []) (kG2 : PySem.W.keepIn K (.ref g2) = true) (mG2 : mg "merged" = some (.ref g2)) :
    FnOk P w K mg base CX0 3 f fd ["one", "other"] spMgd := by
  refine F.ok scMg (fun vs H Q E h => ?_) (fun cdv A outer s H vs Q E hr h => ?_)
  · obtain ⟨a, b, xs, ys, rfl, _⟩ := h
    rfl
  obtain ⟨a, b, xs, ys, rfl, hA, hB, hz, q⟩ := h
  refine ⟨_, pss_cons (ps_expr (pe_call G hr rfl mG kG bG .nil pass0 (pa_cons (pv 0) pa_nil))) (pss_cons (ps_expr (pe_call G hr rfl mG kG bG .nil pass0 (pa_cons (pv 1) pa_nil)))
    (pss_one (ps_ret (pe_call G2 (hr.mono (by decide)) rfl mG2 kG2 bG2 .nil pass0 (pa_cons (pv 0) (pa_cons (pv 1) pa_nil)))))), ?_⟩
  refine ⟨_, rfl, a, xs, rfl, hA, fun H1 S1 => ?_⟩
  refine ⟨_, rfl, b, ys, rfl, S1 _ _ hB, fun H2 S2 => ?_⟩
  have S12 := S1.trans S2
  exact ⟨_, rfl, _, rfl, a, b, xs, ys, rfl, S12 _ _ hA, S12 _ _ hB, hz, fun p H' S hp e => q p H' (S12.trans S) (S12.free hp) e⟩
def spMgdA : Sp := fun vs H Q _ => ∃ (a : Addr) (rs : List (Addr × List Int)), vs = [.ref a] ∧ H a = some (.lst (rs.map rf)) ∧ LLs H rs ∧ rs.length ≤ 100 ∧ (∀ r ∈ rs, r.2.length ≤ 1000) ∧
  ∀ (p : Addr) (H' : Hp), Same H H' → H p = none → H' p = some (LI (foldM (rs.map (·.2)))) → Q (.ref p) H'
theorem scMgdA : FnScope ["lists", "told", "values"] ["lists"] (defScope sMgdA) := ⟨rfl, rfl, rfl, by decide +kernel, rfl, by decide +kernel, by decide +kernel⟩
theorem fold_small {rs : List (Addr × List Int)} (h1 : rs.length ≤ 100) (h2 : ∀ r ∈ rs, r.2.length ≤ 1000) (i : Nat) : (foldM ((rs.take i).map (·.2))).length ≤ 100000 := by
  have h := foldM_len (xss := (rs.take i).map (·.2)) (m := 1000) fun x hx => by
    obtain ⟨r, hr, rfl⟩ := List.mem_map.mp hx
    exact h2 r (List.mem_of_mem_take hr)
  rw [List.length_map, List.length_take] at h
  have : min i rs.length * 1000 ≤ 100 * 1000 := Nat.mul_le_mul_right _ (by omega)
  omega
theorem map_get {rs : List (Addr × List Int)} {i : Nat} {x : V} (h : (rs.map rf)[i]? = some x) : ∃ r, rs[i]? = some r ∧ x = .ref r.1 := by
  rw [List.getElem?_map] at h
  obtain ⟨r, h1, h2⟩ := Option.map_eq_some_iff.mp h
  exact ⟨r, h1, h2.symm⟩
theorem fold_step {rs : List (Addr × List Int)} {i : Nat} {r : Addr × List Int} (h : rs[i]? = some r) : foldM ((rs.take (i + 1)).map (·.2)) = mrg (foldM ((rs.take i).map (·.2))) r.2 := by
  rw [List.map_take, List.map_take]
  exact foldM_take_succ (by rw [List.getElem?_map, h]; rfl)
theorem ok_mgda (F : Fun K "merged_all" "merged_all" sMgdA f fd) (G : FnOk P w K mg base CX0 1 g gd ["one", "other"] spMgd) (bG : Binds K gd ["one", "other"] []) (kG : PySem.W.keepIn K (.ref g) = true) (mG : mg "merged" = some (.ref g)) :
    FnOk P w K mg base CX0 2 f fd ["lists"] spMgdA := by
  refine F.ok scMgdA (fun vs H Q E h => ?_) (fun cdv A outer s H vs Q E hr h => ?_)
  · obtain ⟨a, rs, rfl, _⟩ := h
    rfl
  obtain ⟨a, rs, rfl, hA, hL, h100, h1000, q⟩ := h
  refine ⟨_, pss_cons (ps_set (i := 1) scMgdA.nd rfl (.inl rfl) (pe_lst pa_nil)) (pss_cons (ps_for PassesOwn.never rfl (pi_list (pv 0)) (pg_name (i := 2) scMgdA.nd rfl (.inl rfl))
    (pss_one (ps_set (i := 1) scMgdA.nd rfl (.inl rfl) (pe_call G hr rfl mG kG bG .nil pass0 (pa_cons (pv 1) (pa_cons (pv 2) pa_nil))))))
    (pss_one (ps_ret (pv 1)))), ?_⟩
  refine ⟨(by show 0 ≤ sizeLine; decide), fun t ht => ?_⟩
  have S0 := same_new ht (.lst [])
  refine ⟨_, rfl, a, rfl, ⟨_, SqL.of (S0 _ _ hA)⟩, ?_⟩
  refine for_list (xs := rs.map rf) (fun i σ H' => ∃ (t : Addr) (v : Option V), σ = [some (.ref a), some (.ref t), v] ∧ Same H H' ∧ H t = none ∧ H' t = some (LI (foldM ((rs.take i).map (·.2))))) ?_ (fun i σ H' _ p => ?_) (fun i x σ H1 hx p => ?_) (fun σ H' p => ?_)
  · exact ⟨t, none, rfl, S0, ht, by rw [upd_same]; rfl⟩
  · obtain ⟨t, v, _, S, _⟩ := p
    exact SqL.of (S _ _ hA)
  · obtain ⟨t, v, rfl, S, ht, hT⟩ := p
    obtain ⟨r, hr1, rfl⟩ := map_get hx
    have hm : r ∈ rs := List.mem_of_getElem? hr1
    refine ⟨_, rfl, _, rfl, t, r.1, _, r.2, rfl, hT, S _ _ (hL r hm), ?_, fun p H' S' hp e => ?_⟩
    · have z1 := fold_small h100 h1000 i
      have z2 := h1000 r hm
      omega
    · exact ⟨p, _, rfl, S.trans S', S.free hp, by rw [e, fold_step hr1]⟩
  · obtain ⟨t, v, rfl, S, ht, hT⟩ := p
    refine ⟨_, rfl, q t H' S ht ?_⟩
    rw [hT, List.length_map, List.take_length]
end
/-! ### what the class InvalidLists is -/
structure ExT (K : PySem.W.Frag) (mg : Str → Option Value) (C fI : Addr) : Prop where
  oex : OexC K C
  gC : mg "InvalidLists" = some (.ref C)
  iC : PySem.W.findIn K (.ref C) "__init__" = some (some (.ref fI))
  tI : PySem.W.typeIn K (.ref fI) = some (.type "function")
  no : PySem.W.findIn K (.ref C) "index" = some none
  exc : ExcC K C
  te : PySem.W.exmOne K (.ref C) (.ref C) = some true
  kv : PySem.W.kitOne K (.ref C) (.type "ValueError") = some true
theorem ExT.xf {K : PySem.W.Frag} {mg : Str → Option Value} {C fI : Addr} (T : ExT K mg C fI) : XfC K C := ⟨T.exc.hg, T.exc.hk, T.exc.hs, T.exc.hd⟩
def spIni (K : PySem.W.Frag) (C : Addr) : Sp := fun vs H Q _ => ∃ (a : Addr) (y : V), vs = [.ref a, y] ∧ H a = some (exo a C none) ∧
  ∀ d, H d = none → d ≠ a → Q .non (upd (upd H d (exd d [("index", y)])) a (exo a C (some d)))
section
variable {P : Program} {w : World} {K : PySem.W.Frag} {mg : Str → Option Value} {base : Heap} {f g g2 C fI : Addr} {fd gd gd2 : FuncData}
theorem scIni : FnScope ["self", "index"] ["self", "index"] (defScope sListsI) := ⟨rfl, rfl, rfl, by decide +kernel, rfl, by decide +kernel, by decide +kernel⟩
theorem ok_ini (F : Fun K "__init__" "InvalidLists.__init__" sListsI f fd) (T : ExT K mg C fI) : FnOk P w K mg base CX0 1 f fd ["self", "index"] (spIni K C) := by
  refine F.ok scIni (fun vs H Q E h => ?_) (fun cdv A outer s H vs Q E hr h => ?_)
  · obtain ⟨a, y, rfl, _⟩ := h
    rfl
  obtain ⟨a, y, rfl, ha, q⟩ := h
  refine ⟨_, pss_one (ps_ost (pv 0) (pv 1)), ?_⟩
  exact ⟨_, rfl, _, rfl, a, C, rfl, T.oex, T.no, .inl ⟨ha, fun dx hd hne => q dx hd hne⟩⟩
/-! ### check_lists -/
inductive NotL (H : Hp) : V → Prop where
  | non : NotL H .non
  | int (i : Int) : NotL H (.int i)
  | str (x : Str) : NotL H (.str x)
  | tup {a : Addr} {xs : List V} (h : H a = some (.tup xs)) : NotL H (.ref a)
  | dk {a : Addr} {kvs : List (Key × V)} (h : H a = some (.dK kvs)) : NotL H (.ref a)
theorem NotL.same {H H' : Hp} {v : V} (n : NotL H v) (S : Same H H') : NotL H' v := by
  cases n with
  | non => exact .non
  | int i => exact .int i
  | str x => exact .str x
  | tup h => exact .tup (S _ _ h)
  | dk h => exact .dk (S _ _ h)
theorem NotL.ty {H : Hp} {v : V} (n : NotL H v) : ∃ t, TyX K H v (.type t) ∧ kitB t "list" = some false := by
  cases n with
  | non => exact ⟨_, .base .non, by decide +kernel⟩
  | int i => exact ⟨_, .base (.int i), by decide +kernel⟩
  | str x => exact ⟨_, .base (.str x), by decide +kernel⟩
  | tup h => exact ⟨_, .base (.tup h), by decide +kernel⟩
  | dk h => exact ⟨_, .base (.dK h), by decide +kernel⟩
/-- a list of flat things, all whole numbers or not -/
def FlatL (H : Hp) (v : V) (b : Bool) : Prop := ∃ (p : Addr) (us : List V), v = .ref p ∧ H p = some (.lst us) ∧ us.length ≤ 1000000 ∧ (∀ u ∈ us, flatS u = true) ∧ (us.map whV).all id = b
theorem FlatL.same {H H' : Hp} {v : V} {b : Bool} (n : FlatL H v b) (S : Same H H') : FlatL H' v b := by
  obtain ⟨p, us, e, h, r⟩ := n
  exact ⟨p, us, e, S _ _ h, r⟩
theorem flat_ints {H : Hp} {p : Addr} {ns : List Int} (h : H p = some (LI ns)) (hz : ns.length ≤ 1000000) : FlatL H (.ref p) true := by
  refine ⟨p, _, rfl, h, by rw [List.length_map]; exact hz, fun u hu => ?_, ?_⟩
  · obtain ⟨n, _, rfl⟩ := List.mem_map.mp hu
    rfl
  · rw [List.map_map, List.all_eq_true]
    intro b hb
    obtain ⟨n, _, rfl⟩ := List.mem_map.mp hb
    rfl
def BadI (H : Hp) (v : V) : Prop := NotL H v ∨ FlatL H v false
theorem BadI.same {H H' : Hp} {v : V} (n : BadI H v) (S : Same H H') : BadI H' v := n.imp (fun x => x.same S) fun x => x.same S
/-- the way out -/
def exits (C : Addr) (H : Hp) (E : XK) (y : V) : Prop := ∀ (d : Addr) (H' : Hp), Same H H' → H d = none → H' d = some (.xd [("index", y)]) → E (.ref C) (some d) H'
def spCkLs (C : Addr) : Sp := fun vs H Q E => ∃ v : V, vs = [v] ∧ ((NotL H v ∧ exits C H E .non) ∨ ∃ (a : Addr) (xs : List V), v = .ref a ∧ H a = some (.lst xs) ∧
  (((∀ x ∈ xs, FlatL H x true) ∧ ∀ H', Same H H' → Q .non H') ∨ ∃ (i : Nat) (y : V), xs[i]? = some y ∧ BadI H y ∧ (∀ j, j < i → ∀ x, xs[j]? = some x → FlatL H x true) ∧ exits C H E (.int i)))
theorem scCkLs : FnScope ["lists", "index", "values", "value"] ["lists"] (defScope sCkLs) := ⟨rfl, rfl, rfl, by decide +kernel, rfl, by decide +kernel, by decide +kernel⟩
/-- raising it: the reading -/
theorem raise_rd {H H1 : Hp} {E : XK} {y : V} {σ : St} {ta : TE} (S : Same H H1) (ex : exits C H E y) (ha : ∀ Q : VK, Q y H1 → ta σ H1 Q) : tMkO C (spIni K C) [] (tCons ta tNil) σ H1 (fun cls d H' => E cls d H') := by
  refine ha _ ⟨by show 1 ≤ 1000; decide, fun a ha' => ⟨a, y, rfl, upd_same, fun d hd hne => ⟨rfl, d, [("index", y)], upd_same, ?_, ?_, ?_⟩⟩⟩
  · rw [upd_ne hne, upd_same]
  · rw [upd_ne hne] at hd
    exact hd
  · rw [upd_ne hne] at hd
    refine ex d _ (fun b o hb => ?_) (S.free hd) upd_same
    have hb1 := S b o hb
    have n1 : b ≠ d := ne_of_none hb1 hd
    have n2 : b ≠ a := ne_of_none hb1 ha'
    rw [upd_ne n1, del_ne n2, upd_ne n2, upd_ne n1, upd_ne n2]
    exact hb1
end
end MU
namespace MU
open PySem L2
section
variable {P : Program} {w : World} {K : PySem.W.Frag} {mg : Str → Option Value} {base : Heap} {f g g2 C fI : Addr} {fd gd gd2 : FuncData}
theorem take_bl {us : List V} {i : Nat} {u : V} (h : us[i]? = some u) : (us.take i).map (fun u => V.bl (whV u)) ++ [.bl (whV u)] = (us.take (i + 1)).map (fun u => V.bl (whV u)) := by
  rw [List.take_add_one, h, List.map_append]
  rfl
theorem smallT {n : Nat} (h : n ≤ 1000000) : n < sizeLine := Nat.lt_of_le_of_lt h (by decide)
theorem wipe1 {σ : St} {i : Nat} {v : Option V} : wipe ((wipe σ [i]).set i v) [i] = wipe σ [i] := by
  show ((σ.set i none).set i v).set i none = σ.set i none
  rw [List.set_set, List.set_set]
theorem yes_of {F G : Hp → Prop} {σ : St} {H : Hp} (h : F H) : tYes σ H (fun b H3 => if b = true then F H3 else G H3) := by
  show if true = true then F H else G H
  rw [if_pos rfl]
  exact h
theorem ok_ckls (F : Fun K "check_lists" "check_lists" sCkLs f fd) (T : Gs mg) (TE : ExT K mg C fI) (G : FnOk P w K mg base CX0 1 g gd ["thing"] spWhole) (bG : Binds K gd ["thing"] []) (kG : PySem.W.keepIn K (.ref g) = true) (mG : mg "is_whole" = some (.ref g))
    (G2 : FnOk P w K mg base CX0 1 fI gd2 ["self", "index"] (spIni K C)) (bG2 : Binds K gd2 ["self", "index"] []) :
    FnOk P w K mg base (L2.CX P w) 3 f fd ["lists"] (spCkLs C) := by
  refine F.okX scCkLs (fun vs H Q E h => ?_) (fun cdv A outer s H vs Q E hr h => ?_)
  · obtain ⟨v, rfl, _⟩ := h
    rfl
  obtain ⟨v, rfl, h⟩ := h
  refine ⟨_, pss_cons (ps_if (pt_not (pt_val (pe_callB call_isi (by rfl) T.isi (by decide +kernel) (pa_cons (pv 0) (pa_cons (pe_bltn (v := .ty "list") (u := .type "list") (by rfl) T.list (by decide +kernel) rfl) pa_nil)))))
      (pss_one (ps_raise rfl (takes_of rfl rfl rfl rfl) (pmk_oex TE.oex TE.iC TE.tI G2 hr bG2 .nil pass0 rfl TE.gC (pa_cons pe_non pa_nil)))) pss_nil)
    (pss_one (ps_for (passes_of rfl) rfl (pi_enum (by rfl) T.enumr (pa_cons (pv 0) pa_nil)) (pg_tup rfl (pgs_cons (pg_name (i := 1) scCkLs.nd rfl (.inl rfl)) (pgs_cons (pg_name (i := 2) scCkLs.nd rfl (.inl rfl)) pgs_nil)))
      (pss_one (ps_if (PW.pt (pw_or (pt_not (pt_val (pe_callB call_isi (by rfl) T.isi (by decide +kernel) (pa_cons (pv 2) (pa_cons (pe_bltn (v := .ty "list") (u := .type "list") (by rfl) T.list (by decide +kernel) rfl) pa_nil)))))
          (pw_or1 (pt_not (pt_val (pe_callB (cr_all rfl) (by rfl) T.all (by decide +kernel) (pa_cons
            (pe_lc (own := [("value", 3)]) (g := gName 3) (tt := tYes) rfl scCkLs.nd (pi_list (pv 2)) (blkOk_by (N := ["lists", "index", "values", "value"]) (sc := defScope sCkLs) (by decide +kernel))
              (fun _ _ _ _ _ => pg_name (i := 3) scCkLs.nd rfl (.inl rfl)) (fun _ _ _ _ _ => pts_nil) (fun _ _ _ _ _ => pe_call G (hr.mono (by decide)) rfl mG kG bG .nil pass0 (pa_cons (pv 3) pa_nil))) pa_nil)))))))
        (pss_one (ps_raise rfl (takes_of rfl rfl rfl rfl) (pmk_oex TE.oex TE.iC TE.tI G2 hr bG2 .nil pass0 rfl TE.gC (pa_cons (pv 1) pa_nil)))) pss_nil)))), ?_⟩
  rcases h with ⟨hn, ex⟩ | ⟨a, xs, rfl, hA, h⟩
  · obtain ⟨t, ty, kt⟩ := hn.ty (K := K)
    refine ⟨_, rfl, _, _, _, _, false, rfl, .ty "list", ty, kit_ty kt, false, rfl, iteT ?_⟩
    exact raise_rd (Same.refl H) ex fun Q q => q
  · refine ⟨_, rfl, _, _, _, _, true, rfl, .ty "list", .base (.lst hA), kit_ty (by decide +kernel), true, rfl, iteF ?_⟩
    refine ⟨_, rfl, a, xs, rfl, SqL.of hA, ?_⟩
    -- how far it goes
    obtain ⟨m, hm, good, over, bad⟩ : ∃ m, m ≤ xs.length ∧ (∀ j, j < m → ∀ x, xs[j]? = some x → FlatL H x true) ∧ (m = xs.length → ∀ H', Same H H' → Q .non H') ∧ (m < xs.length → ∀ y, xs[m]? = some y → BadI H y ∧ exits C H E (.int m)) := by
      rcases h with ⟨h1, h2⟩ | ⟨i, y, h1, h2, h3, h4⟩
      · exact ⟨xs.length, Nat.le_refl _, fun j _ x hx => h1 x (List.mem_of_getElem? hx), fun _ => h2, fun z => absurd z (Nat.lt_irrefl _)⟩
      · have hi := (List.getElem?_eq_some_iff.mp h1).1
        exact ⟨i, Nat.le_of_lt hi, h3, fun z => absurd hi (by omega), fun _ y' hy => by rw [h1] at hy; cases hy; exact ⟨h2, h4⟩⟩
    refine for_it walk_enum (fun i σ H' => σ.length = 4 ∧ Same H H' ∧ i ≤ m) ⟨rfl, Same.refl H, Nat.zero_le _⟩ (fun i σ H' _ p => SqL.of (p.2.1 _ _ hA)) (fun i x σ H1 H2 hi p y => ?_) (fun σ H' p => over (by omega) H' p.2.1)
    obtain ⟨T', x1, x2, rfl, hT, rfl, h1, h2⟩ := y
    cases h1
    obtain ⟨hl, S1, him⟩ := p
    have S2 : Same H (upd H1 T' (.tup [.int i, x2])) := S1.trans (same_new hT _)
    refine ⟨T', _, rfl, SqT.of upd_same, rfl, _, _, rfl, _, _, rfl, rfl, ?_⟩
    have g1 : ((σ.set 1 (some (.int (i : Nat)))).set 2 (some x2))[1]? = some (some (.int (i : Nat))) := by
      rw [List.getElem?_set_ne (by decide)]
      exact set_get (by omega)
    have g2 : ((σ.set 1 (some (.int (i : Nat)))).set 2 (some x2))[2]? = some (some x2) := set_get (by rw [List.length_set]; omega)
    have gl : ((σ.set 1 (some (.int (i : Nat)))).set 2 (some x2)).length = 4 := by rw [List.length_set, List.length_set]; exact hl
    refine ⟨_, g2, ?_⟩
    by_cases hb : i < m
    · obtain ⟨p, us, rfl, hp, hz, hu, hall⟩ := (good i hb x2 h2).same S2
      refine ⟨_, _, _, _, true, rfl, .ty "list", .base (.lst hp), kit_ty (by decide +kernel), true, rfl, iteF ?_⟩
      refine ⟨_, g2, p, rfl, ⟨us, SqL.of hp⟩, fun D hD => ?_⟩
      refine lc_list (xs := us) (fun j H' => Same (upd H1 T' (.tup [.int i, .ref p])) H' ∧ H' D = some (.lst ((us.take j).map fun u => V.bl (whV u)))) ⟨same_new hD _, upd_same⟩ (fun j H' _ q => SqL.of (q.1 _ _ hp)) (fun j u H' hu2 q => ?_) (fun H' q => ?_)
      · refine ⟨wipe1, ?_⟩
        refine yes_of ?_
        refine ⟨_, set_get (by rw [wipe_length, gl]; decide), u, rfl, hu u (List.mem_of_getElem? hu2), _, q.2, ?_, fun b o hb' => ?_, ?_⟩
        · rw [List.length_map, List.length_take]
          exact smallT (by omega)
        · rw [upd_ne (ne_of_none hb' hD)]
          exact q.1 b o hb'
        · rw [upd_same, take_bl hu2]
      · refine ⟨D, us.map whV, rfl, SqL.of ?_, true, by rw [hall], iteF ⟨gl, S2.trans q.1, hb⟩⟩
        rw [q.2, List.take_length, List.map_map]
        rfl
    · have e : i = m := by omega
      subst e
      obtain ⟨hbad, ex⟩ := bad hi x2 h2
      rcases hbad with hn | hf
      · obtain ⟨t, ty, kt⟩ := (hn.same S2).ty (K := K)
        refine ⟨_, _, _, _, false, rfl, .ty "list", ty, kit_ty kt, false, rfl, iteT (iteT ?_)⟩
        exact raise_rd S2 ex fun Q q => ⟨_, g1, q⟩
      · obtain ⟨p, us, rfl, hp, hz, hu, hall⟩ := hf.same S2
        refine ⟨_, _, _, _, true, rfl, .ty "list", .base (.lst hp), kit_ty (by decide +kernel), true, rfl, iteF ?_⟩
        refine ⟨_, g2, p, rfl, ⟨us, SqL.of hp⟩, fun D hD => ?_⟩
        refine lc_list (xs := us) (fun j H' => Same (upd H1 T' (.tup [.int i, .ref p])) H' ∧ H' D = some (.lst ((us.take j).map fun u => V.bl (whV u)))) ⟨same_new hD _, upd_same⟩ (fun j H' _ q => SqL.of (q.1 _ _ hp)) (fun j u H' hu2 q => ?_) (fun H' q => ?_)
        · refine ⟨wipe1, ?_⟩
          refine yes_of ?_
          refine ⟨_, set_get (by rw [wipe_length, gl]; decide), u, rfl, hu u (List.mem_of_getElem? hu2), _, q.2, ?_, fun b o hb' => ?_, ?_⟩
          · rw [List.length_map, List.length_take]
            exact smallT (by omega)
          · rw [upd_ne (ne_of_none hb' hD)]
            exact q.1 b o hb'
          · rw [upd_same, take_bl hu2]
        · refine ⟨D, us.map whV, rfl, SqL.of ?_, false, by rw [hall], iteT ?_⟩
          · rw [q.2, List.take_length, List.map_map]
            rfl
          · exact raise_rd (S2.trans q.1) ex fun Q q => ⟨_, g1, q⟩
end
end MU
namespace MU
open PySem L2
section
variable {P : Program} {w : World} {K : PySem.W.Frag} {mg : Str → Option Value} {base : Heap} {f g g2 C fI : Addr} {fd gd gd2 : FuncData}
/-- how merge_all falls -/
def FallsA (C : Addr) (H : Hp) (E : XK) (v : V) : Prop := (NotL H v ∧ exits C H E .non) ∨ ∃ (a : Addr) (xs : List V), v = .ref a ∧ H a = some (.lst xs) ∧ ∃ (i : Nat) (y : V), xs[i]? = some y ∧ BadI H y ∧ (∀ j, j < i → ∀ x, xs[j]? = some x → FlatL H x true) ∧ exits C H E (.int i)
def spMgA (C : Addr) : Sp := fun vs H Q E => ∃ v : V, vs = [v] ∧ (FallsA C H E v ∨ ∃ (a : Addr) (rs : List (Addr × List Int)), v = .ref a ∧ H a = some (.lst (rs.map rf)) ∧ LLs H rs ∧ rs.length ≤ 100 ∧ (∀ r ∈ rs, r.2.length ≤ 1000) ∧
  ∀ (p : Addr) (H' : Hp), Same H H' → H p = none → H' p = some (LI (foldM (rs.map (·.2)))) → Q (.ref p) H')
theorem scMgA : FnScope ["lists"] ["lists"] (defScope sMgA) := ⟨rfl, rfl, rfl, by decide +kernel, rfl, by decide +kernel, by decide +kernel⟩
theorem ok_mga (F : Fun K "merge_all" "merge_all" sMgA f fd) (G : FnOk P w K mg base (L2.CX P w) 3 g gd ["lists"] (spCkLs C)) (bG : Binds K gd ["lists"] []) (kG : PySem.W.keepIn K (.ref g) = true) (mG : mg "check_lists" = some (.ref g))
    (G2 : FnOk P w K mg base CX0 2 g2 gd2 ["lists"] spMgdA) (bG2 : Binds K gd2 ["lists"] []) (kG2 : PySem.W.keepIn K (.ref g2) = true) (mG2 : mg "merged_all" = some (.ref g2)) :
    FnOk P w K mg base (L2.CX P w) 4 f fd ["lists"] (spMgA C) := by
  refine F.okX scMgA (fun vs H Q E h => ?_) (fun cdv A outer s H vs Q E hr h => ?_)
  · obtain ⟨v, rfl, _⟩ := h
    rfl
  obtain ⟨v, rfl, h⟩ := h
  refine ⟨_, pss_cons (ps_expr (pe_call G hr rfl mG kG bG .nil (passes_call (takes_of rfl rfl rfl rfl) (fun _ _ _ _ h => h)) (pa_cons (pv 0) pa_nil)))
    (pss_one (ps_ret (pe_call G2 (hr.mono (by decide)) rfl mG2 kG2 bG2 .nil pass0 (pa_cons (pv 0) pa_nil)))), ?_⟩
  rcases h with h | ⟨a, rs, rfl, hA, hL, h1, h2, q⟩
  · rcases h with ⟨hn, ex⟩ | ⟨a, xs, rfl, hA, i, y, hr⟩
    · exact ⟨_, rfl, _, rfl, .inl ⟨hn, ex⟩⟩
    · exact ⟨_, rfl, _, rfl, .inr ⟨a, xs, rfl, hA, .inr ⟨i, y, hr⟩⟩⟩
  · refine ⟨_, rfl, _, rfl, .inr ⟨a, _, rfl, hA, .inl ⟨fun x hx => ?_, fun H1 S1 => ?_⟩⟩⟩
    · obtain ⟨r, hr, rfl⟩ := List.mem_map.mp hx
      exact flat_ints (hL r hr) (Nat.le_trans (h2 r hr) (by decide))
    · exact ⟨_, rfl, a, rs, rfl, S1 _ _ hA, hL.same S1, h1, h2, fun p H' S hp e => q p H' (S1.trans S) (S1.free hp) e⟩
end
end MU
namespace MU
open PySem L2
/-- ** of a great base -/
def CPowW (i j : Int) : Prop := 0 ≤ j ∧ (Builtin.Int.intBits i : Int) * j ≤ 2 ^ 27
section
variable {X : Cx}
theorem op_powW : OpR X (binaryOp .Pow) (rI CPowW fun i j => .int (i ^ j.toNat)) := opI fun _ _ _ _ _ _ _ hc q => PyProof.Rows.pow_int hc.1 hc.2 q
end
def bigM : Int := (((10 : Int) ^ 60) ^ 60) ^ 4
theorem bigM_pos : 0 < bigM := by decide +kernel
/-- the draws' object: what is left of the cell, how often it was asked, great or not -/
def Dr (H : Hp) (d : Addr) (m : Nat) : Prop := ∃ (x k : Int) (b : Bool), H d = some (.lst [.int x, .int k, .bl b]) ∧ 0 ≤ x ∧ x < bigM ∧ 0 ≤ k ∧ k ≤ m
theorem Dr.mono {H : Hp} {d : Addr} {m n : Nat} (h : Dr H d m) (hn : m ≤ n) : Dr H d n := by
  obtain ⟨x, k, b, h1, h2, h3, h4, h5⟩ := h
  exact ⟨x, k, b, h1, h2, h3, h4, by omega⟩
theorem Dr.same {H H' : Hp} {d : Addr} {m : Nat} (h : Dr H d m) (S : Same H H') : Dr H' d m := by
  obtain ⟨x, k, b, h1, r⟩ := h
  exact ⟨x, k, b, S _ _ h1, r⟩
theorem Dr.ne {H : Hp} {d p : Addr} {m : Nat} (h : Dr H d m) (hp : H p = none) : p ≠ d := fun e => by
  obtain ⟨x, k, b, h1, _⟩ := h
  rw [e, h1] at hp
  cases hp
/-- all but d as it was -/
def SameX (d : Addr) (H H' : Hp) : Prop := ∀ b o, b ≠ d → H b = some o → H' b = some o
theorem SameX.refl (d : Addr) (H : Hp) : SameX d H H := fun _ _ _ h => h
theorem SameX.trans {d : Addr} {H H1 H2 : Hp} (a : SameX d H H1) (b : SameX d H1 H2) : SameX d H H2 := fun c o hc h => b c o hc (a c o hc h)
theorem sx {d : Addr} {H H' : Hp} (a : Same H H') : SameX d H H' := fun c o _ h => a c o h
theorem SameX.free {d : Addr} {H H' : Hp} {p : Addr} (a : SameX d H H') (hp : p ≠ d) (h : H' p = none) : H p = none := by
  cases q : H p with
  | none => rfl
  | some o =>
    rw [a p o hp q] at h
    cases h
theorem SameX.freeD {d : Addr} {H H' : Hp} {p : Addr} {m : Nat} (a : SameX d H H') (hd : Dr H' d m) (h : H' p = none) : H p = none := a.free (hd.ne h) h
section
variable {P : Program} {w : World} {K : PySem.W.Frag} {mg : Str → Option Value} {base : Heap} {f g g2 C fI : Addr} {fd gd gd2 : FuncData}
/-! ### _law_draws -/
def spDraws : Sp := fun vs H Q _ => ∃ c : Int, vs = [.int c] ∧ ∀ (p : Addr) (H' : Hp), Same H H' → H p = none → Dr H' p 0 → Q (.ref p) H'
theorem scDraws : FnScope ["_law_cell"] ["_law_cell"] (defScope sDraws) := ⟨rfl, rfl, rfl, by decide +kernel, rfl, by decide +kernel, by decide +kernel⟩
theorem ok_draws (F : Fun K "_law_draws" "_law_draws" sDraws f fd) (T : Gs mg) : FnOk P w K mg base CX0 1 f fd ["_law_cell"] spDraws := by
  refine F.ok scDraws (fun vs H Q E h => ?_) (fun cdv A outer s H vs Q E hr h => ?_)
  · obtain ⟨c, rfl, _⟩ := h
    rfl
  obtain ⟨c, rfl, q⟩ := h
  refine ⟨_, pss_one (ps_ret (pe_lst (pa_cons (pe_op op_mod (pe_callTy call_int1 (by rfl) T.int (by decide +kernel) (pa_cons (pv 0) pa_nil)) (pe_op op_powW (pe_op op_powW (pe_op op_powW pe_int pe_int) pe_int) pe_int))
    (pa_cons pe_int (pa_cons (pe_cmpR op_ge (pv 0) (pe_op op_powW pe_int pe_int) (nomark _)) pa_nil))))), ?_⟩
  refine ⟨_, rfl, .inl ⟨c, rfl, ?_⟩⟩
  refine ⟨10, 60, rfl, rfl, ⟨by decide, by decide +kernel⟩, ?_⟩
  refine ⟨_, 60, rfl, rfl, ⟨by decide, by decide +kernel⟩, ?_⟩
  refine ⟨_, 4, rfl, rfl, ⟨by decide, by decide +kernel⟩, ?_⟩
  refine ⟨c, _, rfl, rfl, bigM_pos, ?_⟩
  refine ⟨_, rfl, 10, 18, rfl, rfl, ⟨by decide, by decide +kernel⟩, ?_⟩
  refine ⟨c, _, rfl, rfl, ?_⟩
  refine ⟨small (by decide : 3 ≤ 1000000), fun p hp => ?_⟩
  refine q p _ (same_new hp _) hp ⟨c % bigM, 0, _, upd_same, Int.emod_nonneg _ (Int.ne_of_gt bigM_pos), Int.emod_lt_of_pos _ bigM_pos, Int.le_refl 0, Int.le_refl 0⟩
end
end MU
namespace MU
open PySem L2
section
variable {P : Program} {w : World} {K : PySem.W.Frag} {mg : Str → Option Value} {base : Heap} {f g g2 C fI : Addr} {fd gd gd2 : FuncData}
/-- what a def of draws promises: the draws' object was asked at most c times more, all else stands -/
def spNext : Sp := fun vs H Q _ => ∃ (d : Addr) (m : Nat), vs = [.ref d] ∧ m ≤ 1000000 ∧ Dr H d m ∧ ∀ (n : Int) (H' : Hp), 0 ≤ n → n < 1000000000 → SameX d H H' → Dr H' d (m + 1) → Q (.int n) H'
theorem scNext : FnScope ["_law_draws_here", "_law_k", "_law_number"] ["_law_draws_here"] (defScope sNext) := ⟨rfl, rfl, rfl, by decide +kernel, rfl, by decide +kernel, by decide +kernel⟩
theorem samex_upd {H : Hp} {d : Addr} {o : HO} : SameX d H (upd H d o) := fun b u hb q => by rw [upd_ne hb]; exact q
theorem ten6 : (10 : Int) ^ (6 : Int).toNat = 1000000 := by decide +kernel
theorem fin_bound {n : Int} (h : 0 ≤ n) (h2 : n < 2147483579) : 0 ≤ n / 7 ∧ n / 7 < 1000000000 := by omega
theorem lo64 {a c : Int} (h : 0 < c) : -(2 ^ 64) < a % c := by have := Int.emod_nonneg a (Int.ne_of_gt h); omega
theorem hi64 {a c : Int} (h : 0 < c) (h2 : c ≤ 2 ^ 64) : a % c < 2 ^ 64 := by have := Int.emod_lt_of_pos a h; omega
theorem ok_next (F : Fun K "_law_next" "_law_next" sNext f fd) (T : Gs mg) : FnOk P w K mg base CX0 1 f fd ["_law_draws_here"] spNext := by
  refine F.ok scNext (fun vs H Q E h => ?_) (fun cdv A outer s H vs Q E hr h => ?_)
  · obtain ⟨d, m, rfl, _⟩ := h
    rfl
  obtain ⟨d, m, rfl, hm, ⟨x, k, b, hd, hx0, hx1, hk0, hk1⟩, q⟩ := h
  refine ⟨_, pss_cons (ps_asg (pe_op op_add (pe_ix ix_list (pv 0) pe_int (fun _ _ => rfl)) pe_int) (pg_sub (pv 0) pe_int set_list))
    (pss_cons (ps_set (i := 1) scNext.nd rfl (.inl rfl) (pe_ix ix_list (pv 0) pe_int (fun _ _ => rfl)))
    (pss_cons (ps_if (pt_truth (pe_ix ix_list (pv 0) pe_int (fun _ _ => rfl)) (by intro _; rfl))
      (pss_cons (ps_set (i := 2) scNext.nd rfl (.inl rfl) (pe_op op_mod (pe_callTy call_int1 (by rfl) T.int (by decide +kernel) (pa_cons (pe_ix ix_list (pv 0) pe_int (fun _ _ => rfl)) pa_nil)) (pe_op op_pow pe_int pe_int)))
      (pss_cons (ps_asg (pe_op op_fdiv (pe_ix ix_list (pv 0) pe_int (fun _ _ => rfl)) (pe_op op_pow pe_int pe_int)) (pg_sub (pv 0) pe_int set_list))
      (pss_one (ps_ret (pv 2))))) pss_nil)
    (pss_cons (ps_set (i := 2) scNext.nd rfl (.inl rfl) (pe_op op_mod (pe_callTy call_int1 (by rfl) T.int (by decide +kernel) (pa_cons (pe_op op_mul (pe_op op_add (pe_op op_add (pe_op op_mod (pe_callTy call_int1 (by rfl) T.int (by decide +kernel) (pa_cons (pe_ix ix_list (pv 0) pe_int (fun _ _ => rfl)) pa_nil)) pe_int) (pe_op op_mul (pe_op op_mul (pv 1) (pv 1)) pe_int)) (pv 1)) pe_int) pa_nil)) pe_int))
    (pss_cons (ps_set (i := 2) scNext.nd rfl (.inl rfl) (pe_op op_mod (pe_callTy call_int1 (by rfl) T.int (by decide +kernel) (pa_cons (pe_op op_mul (pv 2) (pv 2)) pa_nil)) pe_int))
    (pss_one (ps_ret (pe_op op_fdiv (pe_op op_mod (pe_callTy call_int1 (by rfl) T.int (by decide +kernel) (pa_cons (pe_op op_mul (pv 2) (pe_op op_add (pv 2) pe_int)) pa_nil)) pe_int) pe_int))))))), ?_⟩
  refine ⟨_, rfl, d, _, 1, _, rfl, rfl, SqL.of hd, atI_nat (j := 1) rfl, k, 1, rfl, rfl, ?_⟩
  refine ⟨_, rfl, d, _, 1, 1, rfl, rfl, hd, rfl, ?_⟩
  refine ⟨_, rfl, d, _, 1, _, rfl, rfl, SqL.of upd_same, atI_nat (j := 1) rfl, ?_⟩
  refine ⟨_, rfl, d, _, 2, _, rfl, rfl, SqL.of upd_same, atI_nat (j := 2) rfl, b, rfl, ?_⟩
  cases b with
  | true =>
    refine iteT ?_
    refine ⟨_, rfl, d, _, 0, _, rfl, rfl, SqL.of upd_same, atI_nat (j := 0) rfl, .inl ⟨x, rfl, ?_⟩⟩
    refine ⟨10, 6, rfl, rfl, ⟨by decide, by decide, by decide⟩, x, _, rfl, rfl, (by show (0 : Int) < (10 : Int) ^ (6 : Int).toNat; rw [ten6]; decide), ?_⟩
    refine ⟨_, rfl, d, _, 0, _, rfl, rfl, SqL.of upd_same, atI_nat (j := 0) rfl, ?_⟩
    refine ⟨10, 6, rfl, rfl, ⟨by decide, by decide, by decide⟩, x, _, rfl, rfl, ⟨by rw [ten6]; decide, by rw [ten6]; decide⟩, ?_⟩
    refine ⟨_, rfl, d, _, 0, 0, rfl, rfl, upd_same, rfl, ?_⟩
    refine ⟨_, rfl, q _ _ ?_ ?_ ?_ ?_⟩
    · rw [ten6]; omega
    · rw [ten6]; omega
    · rw [upd_upd]; exact samex_upd
    · rw [upd_upd]
      refine ⟨x / (10 : Int) ^ (6 : Int).toNat, k + 1, true, upd_same, ?_, ?_, ?_, ?_⟩
      · rw [ten6]; omega
      · rw [ten6]; omega
      · omega
      · omega
  | false =>
    refine iteF ?_
    refine ⟨_, rfl, d, _, 0, _, rfl, rfl, SqL.of upd_same, atI_nat (j := 0) rfl, .inl ⟨x, rfl, ?_⟩⟩
    refine ⟨x, _, rfl, rfl, (by show (0 : Int) < 1000003; decide), ?_⟩
    refine ⟨_, rfl, _, rfl, k + 1, k + 1, rfl, rfl, .inl ⟨by omega, by omega⟩, ?_⟩
    refine ⟨_, _, rfl, rfl, .inr ⟨by decide, by decide⟩, ?_⟩
    refine ⟨_, _, rfl, rfl, ?_⟩
    refine ⟨_, rfl, _, _, rfl, rfl, ?_⟩
    refine ⟨_, _, rfl, rfl, .inr ⟨by decide, by decide⟩, ?_⟩
    refine .inl ⟨_, rfl, ?_⟩
    refine ⟨_, _, rfl, rfl, (by show (0 : Int) < 2147483629; decide), ?_⟩
    refine ⟨_, rfl, _, rfl, _, _, rfl, rfl, .inl ⟨lo64 (by decide), hi64 (by decide) (by decide)⟩, .inl ⟨_, rfl, ?_⟩⟩
    refine ⟨_, _, rfl, rfl, (by show (0 : Int) < 2147483587; decide), ?_⟩
    refine ⟨_, rfl, _, rfl, _, 2, rfl, rfl, _, _, rfl, rfl, .inl ⟨lo64 (by decide), hi64 (by decide) (by decide)⟩, .inl ⟨_, rfl, ?_⟩⟩
    refine ⟨_, _, rfl, rfl, (by show (0 : Int) < 2147483579; decide), ?_⟩
    refine ⟨_, _, rfl, rfl, ⟨by decide, by decide⟩, ?_⟩
    have b3 := fun a : Int => fin_bound (Int.emod_nonneg a (by decide : (2147483579 : Int) ≠ 0)) (Int.emod_lt_of_pos a (by decide))
    exact q _ _ (b3 _).1 (b3 _).2 samex_upd ⟨x, k + 1, false, upd_same, hx0, hx1, by omega, by omega⟩
end
end MU
namespace MU
open PySem L2
section
variable {P : Program} {w : World} {K : PySem.W.Frag} {mg : Str → Option Value} {base : Heap} {f g g2 C fI : Addr} {fd gd gd2 : FuncData}
/-- a list of whole numbers of bounded size -/
def Tame (ns : List Int) : Prop := ∀ n ∈ ns, n.natAbs < 2 ^ 70
/-- the result of a def that draws a list: a new list, the draws asked at most c times more -/
def gives (d : Addr) (m c L : Nat) (H : Hp) (Q : VK) : Prop := ∀ (p : Addr) (ns : List Int) (H' : Hp), SameX d H H' → Dr H' d (m + c) → H p = none → H' p = some (LI ns) → ns.length ≤ L → Tame ns → Q (.ref p) H'
def spDrawn : Sp := fun vs H Q _ => ∃ (d : Addr) (m L : Nat), vs = [.ref d, .int L] ∧ L ≤ 30 ∧ m ≤ 900000 ∧ Dr H d m ∧ gives d m 40 L H Q
theorem scDrawn : FnScope ["_law_draws_here", "_law_most", "_law_pick", "_law_wide", "_law_told", "_law_k", "_law_value"] ["_law_draws_here", "_law_most"] (defScope sDrawn) := ⟨rfl, rfl, rfl, by decide +kernel, rfl, by decide +kernel, by decide +kernel⟩
theorem wide_of (n : Int) (h : 0 ≤ n) : ∃ wd : Int, atI [V.int 2, V.int 4, V.int 9, V.int ((10 : Int) ^ (6 : Int).toNat)] (n % 4) = some (.int wd) ∧ 0 < wd ∧ wd ≤ 1000000 := by
  have h4 : n % 4 = 0 ∨ n % 4 = 1 ∨ n % 4 = 2 ∨ n % 4 = 3 := by omega
  rcases h4 with e | e | e | e <;> rw [e]
  · exact ⟨2, rfl, by decide, by decide⟩
  · exact ⟨4, rfl, by decide, by decide⟩
  · exact ⟨9, rfl, by decide, by decide⟩
  · exact ⟨(10 : Int) ^ (6 : Int).toNat, rfl, by rw [ten6]; decide, by rw [ten6]; decide⟩
theorem tame_snoc {ns : List Int} {n : Int} (h : Tame ns) (hn : n.natAbs < 2 ^ 70) : Tame (ns ++ [n]) := fun z hz => by
  rcases List.mem_append.mp hz with h1 | h1
  · exact h z h1
  · rw [List.mem_singleton.mp h1]; exact hn
theorem LI_snoc (ns : List Int) (n : Int) : ns.map V.int ++ [V.int n] = (ns ++ [n]).map V.int := by rw [List.map_append]; rfl
theorem ok_drawn (F : Fun K "_law_drawn" "_law_drawn" sDrawn f fd) (T : Gs mg) (G : FnOk P w K mg base CX0 1 g gd ["_law_draws_here"] spNext) (bG : Binds K gd ["_law_draws_here"] []) (kG : PySem.W.keepIn K (.ref g) = true) (mG : mg "_law_next" = some (.ref g)) :
    FnOk P w K mg base CX0 2 f fd ["_law_draws_here", "_law_most"] spDrawn := by
  refine F.ok scDrawn (fun vs H Q E h => ?_) (fun cdv A outer s H vs Q E hr h => ?_)
  · obtain ⟨d, m, L, rfl, _⟩ := h
    rfl
  obtain ⟨d, m, L, rfl, hL, hm, hd, q⟩ := h
  refine ⟨_, pss_cons (ps_set (i := 2) scDrawn.nd rfl (.inl rfl) (pe_call G hr rfl mG kG bG .nil pass0 (pa_cons (pv 0) pa_nil)))
    (pss_cons (ps_set (i := 3) scDrawn.nd rfl (.inr rfl) (pe_ix ix_list (pe_lst (pa_cons pe_int (pa_cons pe_int (pa_cons pe_int (pa_cons (pe_op op_pow pe_int pe_int) pa_nil))))) (pe_op op_mod (pe_callTy call_int1 (by rfl) T.int (by decide +kernel) (pa_cons (pv 2) pa_nil)) pe_int) (fun _ _ => rfl)))
    (pss_cons (ps_setLc (i := 4) (own := [("_law_k", 5)]) (g := gName 5) (tt := tYes) (by rfl) scDrawn.nd rfl rfl (sw_true rfl rfl rfl (by decide +kernel))
        (pi_range1 (by rfl) T.range (pa_cons (pe_op op_mod (pe_callTy call_int1 (by rfl) T.int (by decide +kernel) (pa_cons (pe_op op_fdiv (pv 2) pe_int) pa_nil)) (pe_op op_add (pv 1) pe_int)) pa_nil))
        (blkOk_by (N := ["_law_draws_here", "_law_most", "_law_pick", "_law_wide", "_law_told", "_law_k", "_law_value"]) (sc := defScope sDrawn) (by decide +kernel))
        (fun _ _ _ _ _ => pg_name (i := 5) scDrawn.nd rfl (.inl rfl)) (fun _ _ _ _ _ => pts_nil)
        (fun _ _ _ _ _ => pe_op op_sub (pe_op op_mod (pe_callTy call_int1 (by rfl) T.int (by decide +kernel) (pa_cons (pe_call G hr rfl mG kG bG .nil pass0 (pa_cons (pv 0) pa_nil)) pa_nil)) (pv 3)) (pe_op op_fdiv (pv 3) pe_int)))
    (pss_cons (ps_set (i := 4) scDrawn.nd rfl (.inl rfl) (pe_ifExp (pt_cmpR op_eq (pe_op op_mod (pe_callTy call_int1 (by rfl) T.int (by decide +kernel) (pa_cons (pe_op op_fdiv (pv 2) pe_int) pa_nil)) pe_int) pe_int (nomark _))
        (pe_lc (own := [("_law_value", 6)]) (g := gName 6) (tt := tYes) rfl scDrawn.nd (pi_list (pv 4)) (blkOk_by (N := ["_law_draws_here", "_law_most", "_law_pick", "_law_wide", "_law_told", "_law_k", "_law_value"]) (sc := defScope sDrawn) (by decide +kernel))
          (fun _ _ _ _ _ => pg_name (i := 6) scDrawn.nd rfl (.inl rfl)) (fun _ _ _ _ _ => pts_nil) (fun _ _ _ _ _ => pe_op op_add (pe_op op_mul (pe_op op_mul (pv 6) pe_int) (pe_op op_pow pe_int pe_int)) pe_int))
        (pv 4)))
    (pss_one (ps_ret (pe_ifExp (pt_cmpR op_eq (pe_op op_mod (pe_callTy call_int1 (by rfl) T.int (by decide +kernel) (pa_cons (pe_op op_fdiv (pv 2) pe_int) pa_nil)) pe_int) pe_int (nomark _))
        (pe_callB cr_sortedI (by rfl) T.sorted (by decide +kernel) (pa_cons (pv 4) pa_nil)) (pv 4))))))), ?_⟩
  refine ⟨_, rfl, d, m, rfl, by omega, hd, fun n H1 hn0 hn1 S1 hd1 => ?_⟩
  -- the width
  refine ⟨10, 6, rfl, rfl, ⟨by decide, by decide, by decide⟩, small (by decide : 4 ≤ 1000000), fun pw hpw => ?_⟩
  have S2 : SameX d H (upd H1 pw (.lst [.int 2, .int 4, .int 9, .int ((10 : Int) ^ (6 : Int).toNat)])) := S1.trans (sx (same_new hpw _))
  have hd2 := hd1.same (same_new hpw (.lst [.int 2, .int 4, .int 9, .int ((10 : Int) ^ (6 : Int).toNat)]))
  obtain ⟨wd, hwd, hw0, hw1⟩ := wide_of n hn0
  refine ⟨_, rfl, .inl ⟨n, rfl, n, 4, rfl, rfl, (by show (0 : Int) < 4; decide), ?_⟩⟩
  refine ⟨pw, _, n % 4, .int wd, rfl, rfl, SqL.of upd_same, hwd, ?_⟩
  generalize hH2 : upd H1 pw (.lst [.int 2, .int 4, .int 9, .int ((10 : Int) ^ (6 : Int).toNat)]) = H2 at S2 hd2 ⊢
  -- the values
  refine ⟨_, rfl, n, 4, rfl, rfl, ⟨by decide, by decide⟩, .inl ⟨_, rfl, ?_⟩⟩
  refine ⟨_, rfl, L, 1, rfl, rfl, n / 4, _, rfl, rfl, (by show (0 : Int) < L + 1; omega), ?_⟩
  have r0 : 0 ≤ n / 4 % ((L : Int) + 1) := Int.emod_nonneg _ (by omega)
  have r1 : n / 4 % ((L : Int) + 1) < L + 1 := Int.emod_lt_of_pos _ (by omega)
  refine ⟨_, rfl, (by show -(2 ^ 62) ≤ n / 4 % ((L : Int) + 1); omega), (by show n / 4 % ((L : Int) + 1) < 2 ^ 62; omega), fun D hD => ?_⟩
  have hDf : H D = none := S2.freeD hd2 hD
  refine lc_range (lo := 0) (n := (n / 4 % ((L : Int) + 1)).toNat) (fun j H' => SameX d H H' ∧ Dr H' d (m + 1 + j) ∧ ∃ ns : List Int, H' D = some (LI ns) ∧ ns.length = j ∧ ∀ z ∈ ns, -1000000 ≤ z ∧ z ≤ 1000000) ?_ (fun j H' hj p => ?_) (fun H' p => ?_)
  · exact ⟨S2.trans (sx (same_new hD _)), hd2.same (same_new hD _), [], upd_same, rfl, fun z hz => absurd hz List.not_mem_nil⟩
  · obtain ⟨S, hdr, ns, hns, hl, hb⟩ := p
    refine ⟨wipe1, ?_⟩
    refine yes_of ?_
    refine ⟨_, rfl, d, m + 1 + j, rfl, by omega, hdr, fun z H3 hz0 hz1 S3 hd3 => .inl ⟨z, rfl, _, rfl, z, wd, rfl, rfl, hw0, ?_⟩⟩
    refine ⟨_, rfl, wd, 2, rfl, rfl, ⟨by decide, by decide⟩, z % wd, wd / 2, rfl, rfl, ?_⟩
    have hDd : D ≠ d := hd2.ne hD
    have hD3 : H3 D = some (LI ns) := S3 D _ hDd hns
    have b0 : 0 ≤ z % wd := Int.emod_nonneg _ (by omega)
    have b1 : z % wd < wd := Int.emod_lt_of_pos _ hw0
    refine ⟨_, hD3, by rw [List.length_map, hl]; exact smallT (by omega), fun b o hb' e => ?_, ?_, ns ++ [z % wd - wd / 2], ?_, ?_, ?_⟩
    · rw [upd_ne (ne_of_none e hDf)]
      exact S3 b o hb' (S b o hb' e)
    · obtain ⟨x, k, fl, e, r⟩ := hd3
      exact ⟨x, k, fl, by rw [upd_ne (Ne.symm hDd)]; exact e, r⟩
    · rw [upd_same]; exact congrArg (fun l => some (HO.lst l)) (LI_snoc ns _)
    · rw [List.length_append, hl]; rfl
    · intro y hy
      rcases List.mem_append.mp hy with h1 | h1
      · exact hb y h1
      · rw [List.mem_singleton.mp h1]; omega
  · obtain ⟨S, hdr, ns, hns, hl, hb⟩ := p
    have hlL : ns.length ≤ L := by omega
    -- made great, or left
    have last : ∀ (t : Addr) (H4 : Hp) (ms : List Int), SameX d H H4 → Dr H4 d (m + 40) → H t = none → H4 t = some (LI ms) → ms.length ≤ L → Tame ms →
        tRet (tIf (tTest (tOp rEq (tOp (rI (fun _ j => 0 < j) fun i j => .int (i % j)) (tCB (fun xs H Q => (∃ i, xs = [V.int i] ∧ Q (V.int i) H) ∨ ∃ k, xs = [V.bl k] ∧ Q (V.int (if k then 1 else 0)) H) (tCons (tOp (rI CDiv fun i j => .int (i / j)) (tVar 2) (tC (.int 512))) tNil)) (tC (.int 6))) (tC (.int 0))))
          (tCB (rSortedI K) (tCons (tVar 4) tNil)) (tVar 4)) { nx := fun _ H' => Q .non H', rt := Q } [some (.ref d), some (.int L), some (.int n), some (.int wd), some (.ref t), none, none] H4 := fun t H4 ms S4 hd4 ht hms hl4 hb4 => by
      refine ⟨_, rfl, n, 512, rfl, rfl, ⟨by decide, by decide⟩, .inl ⟨_, rfl, _, 6, rfl, rfl, (by show (0 : Int) < 6; decide), rfl, _, rfl, ite2 (fun _ => ?_) (fun _ => ?_)⟩⟩
      · refine ⟨_, rfl, t, ms, rfl, SqL.of hms, fun ns' p perm _ hp => ?_⟩
        refine q p ns' _ (S4.trans (sx (same_new hp _))) (hd4.same (same_new hp _)) (S4.freeD hd4 hp) upd_same (by rw [perm.length_eq]; exact hl4) (fun z hz => hb4 z (perm.mem_iff.mp hz))
      · exact ⟨_, rfl, q t ms H4 S4 hd4 ht hms hl4 hb4⟩
    have tame : Tame ns := fun z hz => by have := hb z hz; omega
    refine ⟨_, rfl, n, 4096, rfl, rfl, ⟨by decide, by decide⟩, .inl ⟨_, rfl, _, 8, rfl, rfl, (by show (0 : Int) < 8; decide), rfl, _, rfl, ite2 (fun _ => ?_) (fun _ => ?_)⟩⟩
    · refine ⟨_, rfl, D, rfl, ⟨_, SqL.of hns⟩, fun D2 hD2 => ?_⟩
      have hD2f : H D2 = none := S.freeD hdr hD2
      refine lc_list (xs := ns.map V.int) (fun j H5 => Same H' H5 ∧ ∃ ms : List Int, H5 D2 = some (LI ms) ∧ ms.length = j ∧ Tame ms) ⟨same_new hD2 _, [], upd_same, rfl, fun z hz => absurd hz List.not_mem_nil⟩ (fun j H5 _ p => SqL.of (p.1 _ _ hns)) (fun j x H5 hx p => ?_) (fun H5 p => ?_)
      · obtain ⟨S5, ms, hms, hl5, ht5⟩ := p
        obtain ⟨z, hz, rfl⟩ := ints_get hx
        have bz := hb z (List.mem_of_getElem? hz)
        have hj := (List.getElem?_eq_some_iff.mp hz).1
        refine ⟨wipe1, ?_⟩
        refine yes_of ?_
        refine ⟨_, rfl, z, 2, rfl, rfl, .inr ⟨by decide, by decide⟩, 10, 14, rfl, rfl, ⟨by decide, by decide, by decide⟩, _, _, rfl, rfl, .inl ⟨by omega, by omega⟩, _, 1, rfl, rfl, ?_⟩
        refine ⟨_, hms, by rw [List.length_map, hl5]; exact smallT (by omega), fun b o e => ?_, ms ++ [z * 2 * (10 : Int) ^ (14 : Int).toNat + 1], ?_, ?_, ?_⟩
        · rw [upd_ne (ne_of_none e hD2)]
          exact S5 b o e
        · rw [upd_same]; exact congrArg (fun l => some (HO.lst l)) (LI_snoc ms _)
        · rw [List.length_append, hl5]; rfl
        · refine tame_snoc ht5 ?_
          rw [show (10 : Int) ^ (14 : Int).toNat = 100000000000000 from by decide +kernel]
          omega
      · obtain ⟨S5, ms, hms, hl5, ht5⟩ := p
        exact last D2 H5 ms (S.trans (sx S5)) ((hdr.mono (by omega)).same S5) hD2f hms (by rw [hl5, List.length_map]; exact hlL) ht5
    · exact ⟨_, rfl, last D H' ns S (hdr.mono (by omega)) hDf hns hlL tame⟩
end
end MU
/-! sum(xs, start) where start and the items are lists -/
namespace MU
open PySem L2
theorem argsSum (a b : Value) : argsOk "sum" ⟨[a, b], []⟩ := by
  unfold argsOk
  kernel_rfl
theorem noStr : isSubtype (.type "list") (.type "str") = pure false := by
  rw [isSubtype_type]
  kernel_rfl
theorem noBytes : isSubtype (.type "list") (.type "bytes") = pure false := by
  rw [isSubtype_type]
  kernel_rfl
theorem noByteA : isSubtype (.type "list") (.type "bytearray") = pure false := by
  rw [isSubtype_type]
  kernel_rfl
/-- the lists at the items' addresses, joined -/
def joined (val : Nat → List Value) (z : List Value) : Nat → List Value
  | 0 => z
  | j + 1 => joined val z j ++ val j
abbrev lstO (xs : List Value) (n : Nat) : Obj := { cls := .type "list", dict := none, data := .seq xs.toArray n, slots := #[] }
section
variable {prog : Program} {w : World} {A : Around} {R : Result → Shared → Prop} {I : Addr} {fp wr : List Addr} {n : Nat} {Y : Nat → Value → Prop} {St : Nat → Heap → Prop}
theorem sum_turns (W : Walks prog w A.in1 I fp wr n Y St) (h₀ : Heap) (val : Nat → List Value) (z : List Value) (b S : Addr) (hS : S ∉ fp) (hwS : ∀ a ∈ wr, a < S) (h0S : ∀ a o, h₀.get? a = some o → a < S)
    (hY : ∀ i v, i < n → Y i v → ∃ r k, v = .ref r ∧ r ∉ wr ∧ h₀.get? r = some (lstO (val i) k)) (hz : ∀ i, i ≤ n → (joined val z i).length ≤ sizeLine) :
    ∀ (k i : Nat) (s : Shared) (c m cS : Nat), n - i = k → i ≤ n → St i s.heap → c ≠ S → c ∉ wr → (c = b ∨ h₀.get? c = none) →
    s.heap.get? S = some { cls := .type "list", dict := none, data := .seq #[Value.ref c] cS, slots := #[] } → s.heap.get? c = some (lstO (joined val z i) m) →
    (∀ a o, a ∉ wr → h₀.get? a = some o → s.heap.get? a = some o) →
    (∀ (c' m' : Nat) (h' : Heap) (tk : Nat), (∀ a o, a ∉ wr → h₀.get? a = some o → h'.get? a = some o) → (c' = b ∨ h₀.get? c' = none) → h'.get? c' = some (lstO (joined val z n) m') →
      R (.ok (.ret (.ref c'))) { s with heap := h', toks := tk }) →
    codeAny (model prog w) A (.builtin "sum.loop" ⟨[.ref I, .ref S, rawInt 2, rawInt 0], []⟩) R s := by
  have hSw : S ∉ wr := fun h => hS (W.sub _ h)
  intro k
  induction k with
  | zero =>
    intro i s c m cS hk hi st hcS hcw hcb hSo hco keep hR
    obtain rfl : i = n := by omega
    refine codeAny_builtin F.entry_sum_loop ?_
    rw [Around.under_plainId F.plain_sum_loop _]
    refine wpAny_bind (wpAny_seqItems hSo rfl ?_)
    show wpAny _ A.in1 (tryCatch (pyNext (.ref I)) _ >>= _) _ _ s
    refine wpAny_bind (wpAny_tryCatch (W.done s _ _ st fun h' tk kp => ?_))
    exact wpAny_pure (hR c m h' tk (fun a o ha e => kp a o ha (keep a o ha e)) hcb (kp c _ hcw hco))
  | succ k ih =>
    intro i s c m cS hk hi st hcS hcw hcb hSo hco keep hR
    have hlt : i < n := by omega
    refine codeAny_builtin F.entry_sum_loop ?_
    rw [Around.under_plainId F.plain_sum_loop _]
    refine wpAny_bind (wpAny_seqItems hSo rfl ?_)
    show wpAny _ A.in1 (tryCatch (pyNext (.ref I)) _ >>= _) _ _ s
    refine wpAny_bind (wpAny_tryCatch (W.item i s _ _ hlt st fun v h1 tk hv st1 kp => ?_))
    obtain ⟨r, kr, rfl, hrw, hr0⟩ := hY i v hlt hv
    have hr1 : h1.get? r = some (lstO (val i) kr) := kp r _ hrw (keep r _ hrw hr0)
    have hc1 := kp c _ hcw hco
    have hS1 := kp S _ hSw hSo
    have hzi := hz (i + 1) hlt
    have ez : (joined val z i).length + (val i).length ≤ sizeLine := by
      have : (joined val z (i + 1)).length = (joined val z i).length + (val i).length := List.length_append ..
      omega
    show wpAny _ A.in1 ((holding [Value.ref r] (binaryOp .Add (.ref c) (.ref r))).attempt >>= _) _ _ _
    refine wpAny_bind (wpAny_attempt (wpAny_holding (PySem.P.add_list hc1 hr1 ?_ (by rw [List.size_toArray, List.size_toArray]; exact ez))))
    show wpAny _ A.in1 (updateSeq S (fun _ => #[Value.ref h1.objs.size]) >>= _) _ _ _
    have ea : (joined val z i).toArray ++ (val i).toArray = (joined val z (i + 1)).toArray := by show _ = (joined val z i ++ val i).toArray; simp
    rw [ea]
    have hS2 : (h1.push (lstO (joined val z (i + 1)) 0)).get? S = some _ := Heap.get?_push_of_some _ hS1
    have hc2 : (h1.push (lstO (joined val z (i + 1)) 0)).get? h1.objs.size = some (lstO (joined val z (i + 1)) 0) := Heap.get?_push_size _ rfl
    have hnS : h1.objs.size ≠ S := fun e => Nat.lt_irrefl _ (by have := Heap.lt_size hS1; rw [← e] at this; exact this)
    have hSlt : S < h1.objs.size := Heap.lt_size hS1
    refine wpAny_bind (wpAny_updateSeq hS2 rfl ?_)
    have hS3 := Heap.get?_update_self (Obj.mapSeq fun _ => #[Value.ref h1.objs.size]) hS2 rfl
    refine wpAny_bind (wpAny_letGo ?_)
    refine wpAny_bind (wpAny_updateSeq hS3 rfl ?_)
    have hS4 := Heap.get?_update_self (Obj.mapSeq fun _ => #[Value.ref h1.objs.size]) hS3 rfl
    have far : ∀ a o, a ≠ S → h1.get? a = some o → (((h1.push (lstO (joined val z (i + 1)) 0)).update S (Obj.mapSeq fun _ => #[Value.ref h1.objs.size])).update S (Obj.mapSeq fun _ => #[Value.ref h1.objs.size])).get? a = some o := fun a o ha e =>
      (Heap.get?_update_other _ _ (Ne.symm ha)).trans ((Heap.get?_update_other _ _ (Ne.symm ha)).trans (Heap.get?_push_of_some _ e))
    have newF : ∀ a o, h1.get? a = some o → a ≠ h1.objs.size := fun a o e z => Nat.lt_irrefl _ (by have := Heap.lt_size e; rw [z] at this; exact this)
    refine wpAny_pure ⟨plainId_quiet F.plain_sum_loop _, ih (i + 1) _ h1.objs.size 0 _ (by omega) hlt (W.frame _ _ _ st1 fun a ha o e => ?_) hnS ?_ ?_ hS4 ?_ (fun a o ha e => ?_) fun c' m' h' tk' hkp hcb' hco' => hR c' m' h' tk' hkp hcb' hco'⟩
    · exact far a o (fun e' => hS (by rw [← e']; exact ha)) e
    · exact fun e => Nat.lt_asymm (hwS _ e) hSlt
    · refine .inr ?_
      cases q : h₀.get? h1.objs.size with
      | none => rfl
      | some o => exact absurd hSlt (Nat.lt_asymm (h0S _ _ q))
    · exact (Heap.get?_update_other _ _ (Ne.symm hnS)).trans ((Heap.get?_update_other _ _ (Ne.symm hnS)).trans hc2)
    · exact far a o (fun e' => by rw [e'] at e; exact Nat.lt_irrefl _ (h0S _ _ e)) (kp a o ha (keep a o ha e))
end
section
variable {prog : Program} {w : World} {A : Around} {E : Value → Shared → Prop} {s : Shared}
theorem call_sum_lists {l b kl kb : Nat} {its : List Value} {z : List Value} {val : Nat → List Value} {Q : Value → Shared → Prop} (hh : A.handled = none) (hl : s.heap.get? l = some (lstO its kl)) (hb : s.heap.get? b = some (lstO z kb))
    (hv : ∀ i v, its[i]? = some v → ∃ r k, v = .ref r ∧ s.heap.get? r = some (lstO (val i) k)) (hz : ∀ i, i ≤ its.length → (joined val z i).length ≤ sizeLine)
    (h : ∀ (c m : Nat) (h' : Heap) (tk : Nat), (∀ a o, s.heap.get? a = some o → h'.get? a = some o) → (c = b ∨ s.heap.get? c = none) → h'.get? c = some (lstO (joined val z its.length) m) → Q (.ref c) { s with heap := h', toks := tk }) :
    wpAny (model prog w) A (call (.builtin "sum") [.ref l, .ref b]) Q E s := by
  refine call_function_tree F.kind_sum F.plain_sum F.entry_sum (argsSum _ _) ?_
  unfold Builtin.«sum»
  simp only [List.length_cons, List.length_nil]
  rw [if_neg (by decide)]
  refine wpAny_bind (wpAny_of_eq (show Builtin.Builtins.bindParams "sum" ["start"] 0 { pos := [Value.ref b] } = pure [some (.ref b)] from rfl) ?_)
  have hll : s.heap.IsList l its.toArray := ⟨_, hl, rfl, _, rfl⟩
  have hlt := Heap.lt_size hl
  refine wpAny_bind (wpAny_pyIter_list hll ?_)
  generalize hg : s.heap.push { cls := .type "list_iterator", data := .fields #[.ref l, .int 0 0] } = g
  have up : ∀ a o, s.heap.get? a = some o → g.get? a = some o := fun a o e => by rw [← hg]; exact Heap.get?_push_of_some _ e
  have gsz : g.objs.size = s.heap.objs.size + 1 := by rw [← hg]; exact Heap.size_push ..
  have hbT : ∀ {s' : Shared}, s'.heap = g → s'.TypeIs (.ref b) "list" := fun e => ⟨_, by rw [e]; exact up _ _ hb, rfl⟩
  refine wpAny_bind (wpAny_pure ?_)
  simp only [List.forIn_cons, List.forIn_nil]
  refine wpAny_bind (wpAny_bind (wpAny_bind (wpAny_isInstance (T := "list") (b := false) (hbT rfl) noStr ?_)))
  simp only [Bool.false_eq_true, if_false]
  refine wpAny_pure (wpAny_bind (wpAny_bind (wpAny_isInstance (T := "list") (b := false) (hbT rfl) noBytes ?_)))
  simp only [Bool.false_eq_true, if_false]
  refine wpAny_pure (wpAny_bind (wpAny_bind (wpAny_isInstance (T := "list") (b := false) (hbT rfl) noByteA ?_)))
  simp only [Bool.false_eq_true, if_false]
  refine wpAny_pure (wpAny_pure ?_)
  refine wpAny_bind (wpAny_newObj_type ?_)
  have st0 : g.IsListIter s.heap.objs.size l 0 ∧ g.IsList l its.toArray := ⟨by rw [← hg]; exact ⟨_, Heap.get?_push_size _ rfl, rfl, rfl⟩, ⟨_, up _ _ hl, rfl, _, rfl⟩⟩
  have W := Walks.list (prog := prog) (w := w) (A := A.in1) hh s.heap.objs.size l (Nat.ne_of_lt hlt) its.toArray
  have kpS : ∀ a o, g.get? a = some o → (g.push { cls := .type "list", data := .seq (List.toArray [Value.ref b]) }).get? a = some o := fun a o e => Heap.get?_push_of_some _ e
  have notI : ∀ a o, s.heap.get? a = some o → a ∉ [s.heap.objs.size] := fun a o e hm => by
    rw [List.mem_singleton.mp hm] at e
    exact Nat.lt_irrefl _ (Heap.lt_size e)
  refine wpAny_pure ⟨plainId_quiet F.plain_sum_loop _, sum_turns W s.heap val z b g.objs.size (fun hm => ?_) (fun a ha => ?_) (fun a o e => ?_) (fun i v hi hv' => ?_) (fun i hi => hz i (by simpa using hi)) its.toArray.size 0 _ b kb 0 (by omega) (Nat.zero_le _)
    (W.frame _ _ _ st0 fun a _ o e => kpS a o e) (fun e => ?_) (notI b _ hb) (.inl rfl) (Heap.get?_push_size _ rfl) (kpS _ _ (up _ _ hb)) (fun a o _ e => kpS _ _ (up a o e)) fun c' m' h' tk k1 k2 k3 => ?_⟩
  · rcases List.mem_cons.mp hm with e | e
    · rw [gsz] at e
      exact Nat.succ_ne_self _ e
    · exact Nat.ne_of_gt (Nat.lt_of_lt_of_le hlt (by rw [gsz]; exact Nat.le_succ _)) (List.mem_singleton.mp e)
  · rw [List.mem_singleton.mp ha, gsz]
    exact Nat.lt_succ_self _
  · rw [gsz]
    exact Nat.lt_succ_of_lt (Heap.lt_size e)
  · obtain ⟨r, kr, rfl, hr⟩ := hv i v (by simpa using hv')
    exact ⟨r, kr, rfl, notI r _ hr, hr⟩
  · have z := Heap.lt_size hb
    rw [e, gsz] at z
    exact Nat.lt_asymm z (Nat.lt_succ_self _)
  · exact h c' m' h' tk (fun a o e => k1 a o (notI a o e) e) k2 (by simpa using k3)
end
end MU
namespace MU
open PySem L2
/-- sum(xs, start) of lists, as a rule -/
def rSumL : List V → Hp → VK → Prop := fun vs H Q => ∃ (a b : Addr) (rs : List (Addr × List V)) (zs : List V), vs = [.ref a, .ref b] ∧ H a = some (.lst (rs.map fun r => .ref r.1)) ∧ (∀ r ∈ rs, H r.1 = some (.lst r.2)) ∧ H b = some (.lst zs) ∧
  zs.length + ((rs.map (·.2)).flatten).length ≤ 1000000 ∧ ∀ (p : Addr) (H' : Hp), Same H H' → (p = b ∨ H p = none) → H' p = some (.lst (zs ++ (rs.map (·.2)).flatten)) → Q (.ref p) H'
theorem joined_eq (vss : List (List Value)) (z : List Value) : ∀ i, i ≤ vss.length → joined (fun i => vss.getD i []) z i = z ++ (vss.take i).flatten
  | 0, _ => by simp [joined]
  | i + 1, h => by
    have ih := joined_eq vss z i (by omega)
    have hi : vss[i]? = some vss[i] := List.getElem?_eq_getElem (by omega)
    show joined _ z i ++ vss.getD i [] = _
    rw [ih, List.take_add_one, hi, List.append_assoc, List.flatten_append]
    simp [List.getD, hi]
section
variable {X : Cx} {pins : List (Addr × Obj)} {σ : St} {H : Hp} {s : Shared}
theorem lists_at (hok : HOk X.prog X.w H s.heap) : ∀ rs : List (Addr × List V), (∀ r ∈ rs, H r.1 = some (.lst r.2)) → ∃ vss : List (List Value), Paired (fun (r : Addr × List V) us => Vals r.2 us ∧ ∃ k, s.heap.get? r.1 = some (lstO us k)) rs vss
  | [], _ => ⟨[], .nil⟩
  | r :: rs, h => by
    obtain ⟨vss, hp⟩ := lists_at hok rs fun x hx => h x (List.mem_cons_of_mem _ hx)
    obtain ⟨_, us, k, rv, e⟩ := (show ObjOk X.prog X.w H s.heap r.1 (.lst r.2) from hok r.1 _ (h r List.mem_cons_self))
    exact ⟨us :: vss, .cons ⟨rv, k, e⟩ hp⟩
theorem vals_flat {F : Addr × List V → List Value → Prop} (hF : ∀ r us, F r us → Vals r.2 us) : ∀ {rs : List (Addr × List V)} {vss : List (List Value)}, Paired F rs vss → Vals (rs.map (·.2)).flatten vss.flatten
  | _, _, .nil => .nil
  | _, _, .cons h t => (hF _ _ h).append (vals_flat hF t)
theorem paired_get {α β : Type} {F : α → β → Prop} : ∀ {l : List α} {m : List β} {i : Nat} {y : β}, Paired F l m → m[i]? = some y → ∃ x, l[i]? = some x ∧ F x y
  | _, _, _, _, .nil, e => by simp at e
  | _, _, 0, _, .cons r _, e => by simp at e; subst e; exact ⟨_, rfl, r⟩
  | _, _, i + 1, y, .cons _ t, e => by
    obtain ⟨x, h1, h2⟩ := paired_get (i := i) (y := y) t (by simpa using e)
    exact ⟨x, by simpa using h1, h2⟩
theorem vals_refs : ∀ {rs : List (Addr × List V)} {its : List Value}, Vals (rs.map fun r => V.ref r.1) its → its = rs.map fun r => Value.ref r.1
  | [], _, r => by cases r; rfl
  | x :: rs, _, r => by
    cases r with
    | cons r1 r2 =>
      cases r1
      rw [vals_refs r2]
      rfl
theorem call_sumL (hc : X.calm = true) : CallR X (.builtin "sum") rSumL := by
  intro pins s σ H vs us Q I r h
  obtain ⟨a, b, rs, zs, rfl, hA, hR, hB, hz, q⟩ := h
  obtain ⟨u1, u2, rfl, r1, r2⟩ := vals2 r
  cases r1
  cases r2
  obtain ⟨_, its, kl, rv, hl⟩ := (show ObjOk X.prog X.w H s.heap a (.lst (rs.map fun r => .ref r.1)) from I.hok a _ hA)
  obtain ⟨_, z, kb, rz, hb⟩ := (show ObjOk X.prog X.w H s.heap b (.lst zs) from I.hok b _ hB)
  obtain ⟨vss, hp⟩ := lists_at I.hok rs hR
  have hits := vals_refs rv
  subst hits
  have hlen : rs.length = vss.length := Paired.length hp
  have hflat : Vals (zs ++ (rs.map (·.2)).flatten) (z ++ vss.flatten) := rz.append (vals_flat (fun _ _ h => h.1) hp)
  have hsz : (z ++ vss.flatten).length ≤ 1000000 := by rw [← hflat.length, List.length_append]; exact hz
  refine call_sum_lists (val := fun i => vss.getD i []) (I.ok.hd hc) hl hb (fun i v hv => ?_) (fun i hi => ?_) fun c m h' tk keep hcb hco => ?_
  · rw [List.getElem?_map] at hv
    obtain ⟨x, hx, rfl⟩ := Option.map_eq_some_iff.mp hv
    have hi : i < rs.length := (List.getElem?_eq_some_iff.mp hx).1
    have hy : vss[i]? = some vss[i] := List.getElem?_eq_getElem (by omega)
    obtain ⟨x', hx', _, k, e⟩ := paired_get hp hy
    rw [hx] at hx'
    cases hx'
    exact ⟨x.1, k, rfl, by simpa [List.getD, hy] using e⟩
  · rw [List.length_map] at hi
    rw [joined_eq vss z i (by omega)]
    refine small (Nat.le_trans ?_ hsz)
    rw [List.length_append, List.length_append]
    have : ((vss.take i).flatten).length ≤ vss.flatten.length := by
      have e : vss.flatten = (vss.take i).flatten ++ (vss.drop i).flatten := by rw [← List.flatten_append, List.take_append_drop]
      rw [e, List.length_append]
      omega
    omega
  · rw [List.length_map, joined_eq vss z _ (by omega), hlen, List.take_length] at hco
    rcases hcb with rfl | hnew
    · have e := (keep _ _ hb).symm.trans hco
      have e1 : z = z ++ vss.flatten := by
        have h2 := congrArg (fun o : Obj => match o.data with | .seq xs _ => xs.toList | _ => []) (Option.some.inj e)
        exact h2
      have e2 : zs = zs ++ (rs.map (·.2)).flatten := by
        rw [← e1] at hflat
        exact rz.inj hflat
      exact ⟨.ref c, H, I.kept (t' := tk) keep, rfl, q c H (Same.refl H) (.inl rfl) (by rw [← e2]; exact hB)⟩
    · have hn : H c = none := I.hok.gone hnew
      refine ⟨.ref c, _, I.laidN (t' := tk) (o := .lst (zs ++ (rs.map (·.2)).flatten)) keep hnew hn ⟨small (by rw [hflat.length]; exact hsz), _, m, hflat, hco⟩, rfl, q c _ (same_new hn _) (.inr hn) upd_same⟩
end
end MU
namespace MU
open PySem L2
theorem Dr.neO {H : Hp} {d p : Addr} {m : Nat} {o : HO} (h : H p = some o) (hd : Dr H d m) (ho : ∀ x k b, o ≠ .lst [.int x, .int k, .bl b]) : p ≠ d := fun e => by
  obtain ⟨x, k, b, h1, _⟩ := hd
  rw [e, h1] at h
  exact ho x k b (Option.some.inj h).symm
theorem LI_ne {ns : List Int} {x k : Int} {b : Bool} : LI ns ≠ .lst [.int x, .int k, .bl b] := fun e => by
  have e2 : ns.map V.int = [.int x, .int k, .bl b] := HO.lst.inj e
  have h : V.bl b ∈ ns.map V.int := by rw [e2]; simp
  obtain ⟨n, _, hn⟩ := List.mem_map.mp h
  cases hn
theorem refs_ne {us : List (Addr × List Int)} {x k : Int} {b : Bool} : HO.lst (us.map rf) ≠ .lst [.int x, .int k, .bl b] := fun e => by
  have e2 : us.map rf = [.int x, .int k, .bl b] := HO.lst.inj e
  have h : V.bl b ∈ us.map rf := by rw [e2]; simp
  obtain ⟨n, _, hn⟩ := List.mem_map.mp h
  cases hn
theorem dr_upd {H : Hp} {d p : Addr} {m : Nat} {o : HO} (h : Dr H d m) (hp : p ≠ d) : Dr (upd H p o) d m := by
  obtain ⟨x, k, b, h1, r⟩ := h
  exact ⟨x, k, b, by rw [upd_ne (Ne.symm hp)]; exact h1, r⟩
theorem ne_of_none' {H : Hp} {a b : Addr} {o : HO} (h : H a = some o) (h' : H b = none) : b ≠ a := Ne.symm (ne_of_none h h')
def rowO : Scope := { kind := .function, names := [(".0", .local), ("_law_head", .cell), ("_law_told", .free)], isGenerator := false, isCoroutine := false, more := [] }
section
variable {P : Program} {w : World} {K : PySem.W.Frag} {mg : Str → Option Value} {base : Heap} {f g g2 C fI : Addr} {fd gd gd2 : FuncData}
def spRow : Sp := fun vs H Q _ => ∃ (d : Addr) (m L : Nat), vs = [.ref d, .int L] ∧ L ≤ 4 ∧ m ≤ 900000 ∧ Dr H d m ∧ gives d m 40 36 H Q
abbrev nRow : List Str := ["_law_draws_here", "_law_most", "_law_told", "_law_heads", "_law_tails", "_law_head", "_law_tail", "_law_k", "_law_unit"]
theorem scRow : FnScope nRow ["_law_draws_here", "_law_most"] (defScope sRow) := ⟨rfl, rfl, rfl, by decide +kernel, rfl, by decide +kernel, by decide +kernel⟩
/-- a unit of the row -/
def okU (r : Addr × List Int) (t : Addr) (H' : Hp) : Prop := r.1 ≠ t ∧ H' r.1 = some (LI r.2) ∧ r.2 ≠ [] ∧ r.2.length ≤ 3 ∧ Tame r.2
def wRow (H : Hp) (d : Addr) (m L : Nat) (σ : St) (H' : Hp) : Prop := ∃ (t : Addr) (hd tl : Int) (o5 o6 : Option V) (us : List (Addr × List Int)), σ = [some (.ref d), some (.int L), some (.ref t), some (.int hd), some (.int tl), o5, o6, none, none] ∧
  (1 ≤ hd ∧ hd ≤ 3) ∧ (1 ≤ tl ∧ tl ≤ 2) ∧ SameX d H H' ∧ H t = none ∧ H' t = some (.lst (us.map rf)) ∧ (∀ r ∈ us, okU r t H') ∧ us.length ≤ L ∧ Dr H' d (m + 2 + 6 * us.length)
def muR (L : Nat) (σ : St) (H : Hp) : Nat := match σ with
  | [_, _, some (.ref t), _, _, _, _, _, _] => (match H t with | some (.lst l) => L - l.length | _ => 0)
  | _ => 0
theorem flat_len {α : Type} {m : Nat} : ∀ {l : List (List α)}, (∀ x ∈ l, x.length ≤ m) → l.flatten.length ≤ l.length * m
  | [], _ => by simp
  | x :: r, h => by
    have h1 := flat_len (l := r) (m := m) fun y hy => h y (List.mem_cons_of_mem _ hy)
    have h2 := h x List.mem_cons_self
    rw [List.flatten_cons, List.length_append, List.length_cons, Nat.succ_mul]
    omega
theorem flat_map {α β γ : Type} (g : β → γ) (rs : List (α × List β)) : ((rs.map fun r => (r.1, r.2.map g)).map (·.2)).flatten = ((rs.map (·.2)).flatten).map g := by
  rw [List.map_flatten, List.map_map, List.map_map]
  rfl
theorem row_end {H H' : Hp} {d t : Addr} {m : Nat} {us : List (Addr × List Int)} {D : Ends} {a1 a3 a4 o5 o6 : Option V} (S : SameX d H H') (hd : Dr H' d (m + 40)) (hT : H' t = some (.lst (us.map rf))) (hU : ∀ r ∈ us, okU r t H') (hl : us.length ≤ 4) (q : gives d m 40 36 H D.rt) :
    tRet (tCB rSumL (tCons (tCB rSumL (tCons (tLc (iList K (tLst (tCons (tC (.int 5)) (tCons (tC (.int 10)) (tCons (tC (.int 15)) tNil))))) (gName 5) tYes (tLc (iList K (tVar 2)) (gName 8) (tTest (tOp rEq (tOp (rIxL K) (tVar 8) (tC (.int 0))) (tVar 5))) (tVar 8) [8]) [5])
      (tCons (tLst tNil) tNil))) (tCons (tLst tNil) tNil))) D [some (.ref d), a1, some (.ref t), a3, a4, o5, o6, none, none] H' := by
  refine ⟨small (by decide : 3 ≤ 1000000), fun p0 hp0 => ?_⟩
  have S0 := same_new hp0 (.lst [.int 5, .int 10, .int 15])
  refine ⟨p0, rfl, ⟨_, SqL.of upd_same⟩, fun D1 hD1 => ?_⟩
  generalize hHb : upd H' p0 (.lst [.int 5, .int 10, .int 15]) = Hb at S0 hD1 ⊢
  have hpb : Hb p0 = some (.lst [.int 5, .int 10, .int 15]) := by rw [← hHb, upd_same]
  refine lc_list (xs := [.int 5, .int 10, .int 15]) (fun j H1 => Same Hb H1 ∧ ∃ rs : List (Addr × List (Addr × List Int)), H1 D1 = some (.lst (rs.map fun r => .ref r.1)) ∧ rs.length = j ∧ ∀ r ∈ rs, r.1 ≠ D1 ∧ H1 r.1 = some (.lst (r.2.map rf)) ∧ (∀ x ∈ r.2, x ∈ us) ∧ r.2.length ≤ 4)
    ⟨same_new hD1 _, [], upd_same, rfl, fun r hr => absurd hr List.not_mem_nil⟩ (fun j H1 _ p => SqL.of (p.1 _ _ hpb)) (fun j x H1 hx p => ?_) (fun H1 p => ?_)
  · obtain ⟨S1, rs, hrs, hlen, hr⟩ := p
    obtain ⟨v, rfl⟩ : ∃ v, x = .int v := by
      have hm := List.mem_of_getElem? hx
      simp only [List.mem_cons, List.not_mem_nil, or_false] at hm
      rcases hm with e | e | e <;> exact ⟨_, e⟩
    have hj : j < 3 := (List.getElem?_eq_some_iff.mp hx).1
    refine ⟨wipe1, ?_⟩
    refine yes_of ?_
    have S01 := S0.trans S1
    refine ⟨_, rfl, t, rfl, ⟨_, SqL.of (S01 _ _ hT)⟩, fun D2 hD2 => ?_⟩
    refine lc_list (xs := us.map rf) (fun k H2 => Same H1 H2 ∧ ∃ sub : List (Addr × List Int), H2 D2 = some (.lst (sub.map rf)) ∧ (∀ x ∈ sub, x ∈ us) ∧ sub.length ≤ k)
      ⟨same_new hD2 _, [], upd_same, fun r hr => absurd hr List.not_mem_nil, Nat.zero_le _⟩ (fun k H2 _ p => SqL.of ((S01.trans p.1) _ _ hT)) (fun k x H2 hx p => ?_) (fun H2 p => ?_)
    · obtain ⟨S2, sub, hsub, hin, hsl⟩ := p
      obtain ⟨r, hr1, rfl⟩ := map_get hx
      have hrm := List.mem_of_getElem? hr1
      obtain ⟨_, hr3, hr4, _⟩ := hU r hrm
      obtain ⟨n, rest, er⟩ := List.exists_cons_of_ne_nil hr4
      refine ⟨wipe1, ?_⟩
      refine ⟨_, rfl, r.1, _, 0, .int n, rfl, rfl, SqL.of ((S01.trans S2) _ _ hr3), atI_nat (j := 0) (by rw [er]; rfl), _, rfl, rfl, _, rfl, ite2 (fun _ => ?_) (fun _ => ⟨S2, sub, hsub, hin, by omega⟩)⟩
      have hk : k < us.length := by
        have := (List.getElem?_eq_some_iff.mp hr1).1
        exact this
      refine ⟨_, rfl, _, hsub, by rw [List.length_map]; exact smallT (by omega), fun b o e => ?_, sub ++ [r], ?_, fun x hx => ?_, ?_⟩
      · rw [upd_ne (ne_of_none e hD2)]
        exact S2 b o e
      · rw [upd_same, List.map_append]
        rfl
      · rcases List.mem_append.mp hx with h1 | h1
        · exact hin x h1
        · rw [List.mem_singleton.mp h1]; exact hrm
      · rw [List.length_append, List.length_singleton]; omega
    · obtain ⟨S2, sub, hsub, hin, hsl⟩ := p
      rw [List.length_map] at hsl
      have nD : D2 ≠ D1 := ne_of_none' hrs hD2
      refine ⟨_, S2 _ _ hrs, by rw [List.length_map, hlen]; exact smallT (by omega), fun b o e => ?_, rs ++ [(D2, sub)], ?_, ?_, fun r hr' => ?_⟩
      · rw [upd_ne (ne_of_none e hD1)]
        exact S2 b o (S1 b o e)
      · rw [upd_same, List.map_append]
        rfl
      · rw [List.length_append, hlen]
        rfl
      · rcases List.mem_append.mp hr' with h1 | h1
        · obtain ⟨e1, e2, e3, e4⟩ := hr r h1
          exact ⟨e1, by rw [upd_ne e1]; exact S2 _ _ e2, e3, e4⟩
        · rw [List.mem_singleton.mp h1]
          exact ⟨nD, by rw [upd_ne nD]; exact hsub, hin, by show sub.length ≤ 4; omega⟩
  · obtain ⟨S1, rs, hrs, hlen, hr⟩ := p
    have S01 := S0.trans S1
    have len12 : ((rs.map (·.2)).flatten).length ≤ 12 := by
      have := flat_len (l := rs.map (·.2)) (m := 4) fun x hx => by
        obtain ⟨r, h1, rfl⟩ := List.mem_map.mp hx
        exact (hr r h1).2.2.2
      rw [List.length_map, hlen] at this
      exact this
    refine ⟨(by show 0 ≤ sizeLine; decide), fun p1 hp1 => ?_⟩
    have S2 := same_new hp1 (.lst [])
    refine ⟨D1, p1, rs.map (fun r => (r.1, r.2.map rf)), [], rfl, ?_, fun r hr' => ?_, upd_same, ?_, fun p H2 S3 hp hpe => ?_⟩
    · rw [List.map_map]
      exact S2 _ _ hrs
    · obtain ⟨x, hx, rfl⟩ := List.mem_map.mp hr'
      exact S2 _ _ (hr x hx).2.1
    · rw [flat_map, List.length_map, List.length_nil]
      omega
    · rw [List.nil_append, flat_map] at hpe
      have S03 := S01.trans (S2.trans S3)
      refine ⟨(by show 0 ≤ sizeLine; decide), fun p2 hp2 => ?_⟩
      have S4 := same_new hp2 (.lst [])
      have inU : ∀ x ∈ (rs.map (·.2)).flatten, x ∈ us := fun x hx => by
        obtain ⟨l, h1, h2⟩ := List.mem_flatten.mp hx
        obtain ⟨r, h3, rfl⟩ := List.mem_map.mp h1
        exact (hr r h3).2.2.1 x h2
      have len36 : ((((rs.map (·.2)).flatten).map (·.2)).flatten).length ≤ 36 := by
        have := flat_len (l := ((rs.map (·.2)).flatten).map (·.2)) (m := 3) fun x hx => by
          obtain ⟨r, h1, rfl⟩ := List.mem_map.mp hx
          exact (hU r (inU r h1)).2.2.2.1
        rw [List.length_map] at this
        omega
      refine ⟨p, p2, ((rs.map (·.2)).flatten).map (fun r => (r.1, r.2.map V.int)), [], rfl, ?_, fun r hr' => ?_, upd_same, ?_, fun p3 H3 S5 hp3 hpe3 => ?_⟩
      · rw [List.map_map]
        exact S4 _ _ hpe
      · obtain ⟨x, hx, rfl⟩ := List.mem_map.mp hr'
        exact (S03.trans S4) _ _ (hU x (inU x hx)).2.1
      · rw [flat_map, List.length_map, List.length_nil]
        omega
      · rw [List.nil_append, flat_map] at hpe3
        have S05 := S03.trans (S4.trans S5)
        refine q p3 _ H3 (S.trans (sx S05)) (hd.same S05) ?_ hpe3 len36 fun n hn => ?_
        · rcases hp3 with e | e
          · rw [e]
            exact (S.trans (sx S03)).freeD (hd.same S03) hp2
          · exact (S.trans (sx (S03.trans S4))).freeD (hd.same (S03.trans S4)) e
        · obtain ⟨l, h1, h2⟩ := List.mem_flatten.mp hn
          obtain ⟨r, h3, rfl⟩ := List.mem_map.mp h1
          exact (hU r (inU r h3)).2.2.2.2 n h2
theorem ok_row (F : Fun K "_law_row" "_law_row" sRow f fd) (T : Gs mg) (G : FnOk P w K mg base CX0 1 g gd ["_law_draws_here"] spNext) (bG : Binds K gd ["_law_draws_here"] []) (kG : PySem.W.keepIn K (.ref g) = true) (mG : mg "_law_next" = some (.ref g)) :
    FnOk P w K mg base CX0 2 f fd ["_law_draws_here", "_law_most"] spRow := by
  refine F.ok scRow (fun vs H Q E h => ?_) (fun cdv A outer s H vs Q E hr h => ?_)
  · obtain ⟨d, m, L, rfl, _⟩ := h
    rfl
  obtain ⟨d, m, L, rfl, hL, hm, hd, q⟩ := h
  refine ⟨_, pss_cons (ps_set (i := 2) scRow.nd rfl (.inr rfl) (pe_lst pa_nil))
    (pss_cons (ps_set (i := 3) scRow.nd rfl (.inl rfl) (pe_op op_add pe_int (pe_op op_mod (pe_callTy call_int1 (by rfl) T.int (by decide +kernel) (pa_cons (pe_call G hr rfl mG kG bG .nil pass0 (pa_cons (pv 0) pa_nil)) pa_nil)) pe_int)))
    (pss_cons (ps_set (i := 4) scRow.nd rfl (.inr rfl) (pe_op op_add pe_int (pe_op op_mod (pe_callTy call_int1 (by rfl) T.int (by decide +kernel) (pa_cons (pe_call G hr rfl mG kG bG .nil pass0 (pa_cons (pv 0) pa_nil)) pa_nil)) pe_int)))
    (pss_cons (ps_while PassesOwn.never (PW.pt (pw_and (pt_cmpR op_lt (pe_callB call_len_seq (by rfl) T.len PySem.boot_len (pa_cons (pv 2) pa_nil)) (pv 1) (nomark _))
        (pw_and1 (pt_cmpR op_gt (pe_op op_mod (pe_callTy call_int1 (by rfl) T.int (by decide +kernel) (pa_cons (pe_call G hr rfl mG kG bG .nil pass0 (pa_cons (pv 0) pa_nil)) pa_nil)) pe_int) pe_int (nomark _)))))
      (pss_cons (ps_set (i := 5) scRow.nd rfl (.inr rfl) (pe_op op_add pe_int (pe_op op_mul pe_int (pe_op op_mod (pe_callTy call_int1 (by rfl) T.int (by decide +kernel) (pa_cons (pe_call G hr rfl mG kG bG .nil pass0 (pa_cons (pv 0) pa_nil)) pa_nil)) (pv 3)))))
      (pss_cons (ps_setLc (i := 6) (own := [("_law_k", 7)]) (g := gName 7) (tt := tYes) (by rfl) scRow.nd rfl rfl (sw_true rfl rfl rfl (by decide +kernel))
        (pi_range1 (by rfl) T.range (pa_cons (pe_op op_mod (pe_callTy call_int1 (by rfl) T.int (by decide +kernel) (pa_cons (pe_call G hr rfl mG kG bG .nil pass0 (pa_cons (pv 0) pa_nil)) pa_nil)) pe_int) pa_nil))
        (blkOk_by (N := nRow) (sc := defScope sRow) (by decide +kernel))
        (fun _ _ _ _ _ => pg_name (i := 7) scRow.nd rfl (.inl rfl)) (fun _ _ _ _ _ => pts_nil)
        (fun _ _ _ _ _ => pe_op op_sub (pe_op op_sub (pv 5) pe_int) (pe_op op_mod (pe_callTy call_int1 (by rfl) T.int (by decide +kernel) (pa_cons (pe_call G hr rfl mG kG bG .nil pass0 (pa_cons (pv 0) pa_nil)) pa_nil)) (pv 4))))
      (pss_one (ps_expr (pe_bm PySem.F.plainAttrs_list PySem.F.slot_list_append PySem.F.type_list_append mt_append (pv 2) (pa_cons (pe_op op_cat (pe_lst (pa_cons (pv 5) pa_nil)) (pv 6)) pa_nil)))))))
    (pss_one (ps_ret (pe_callB (call_sumL rfl) (by rfl) T.sum (by decide +kernel) (pa_cons (pe_callB (call_sumL rfl) (by rfl) T.sum (by decide +kernel)
      (pa_cons (pe_lc (own := [("_law_head", 5)]) (g := gName 5) (tt := tYes) (te := tLc (iList K (tVar 2)) (gName 8) (tTest (tOp rEq (tOp (rIxL K) (tVar 8) (tC (.int 0))) (tVar 5))) (tVar 8) [8]) rfl scRow.nd (pi_list (pe_lst (pa_cons pe_int (pa_cons pe_int (pa_cons pe_int pa_nil))))) (blkOk_by (N := nRow) (sc := defScope sRow) (by decide +kernel))
        (fun _ _ _ _ _ => pg_name (i := 5) scRow.nd rfl (.inr rfl)) (fun _ _ _ _ _ => pts_nil)
        (fun _ _ _ _ _ => pe_lc (own := [("_law_unit", 8)]) (g := gName 8) (wi := iList K (tVar 2)) (tt := tTest (tOp rEq (tOp (rIxL K) (tVar 8) (tC (.int 0))) (tVar 5))) (te := tVar 8) rfl scRow.nd (pi_list (pv 2)) (blkOk_by (N := nRow) (sc := relS rowO (defScope sRow)) (by decide +kernel))
          (fun _ _ _ _ _ => pg_name (i := 8) scRow.nd rfl (.inl rfl)) (fun _ _ _ _ _ => pts_one (pt_cmpR op_eq (pe_ix ix_list (pv 8) pe_int (fun _ _ => rfl)) (pv 5) (nomark _))) (fun _ _ _ _ _ => pv 8)))
        (pa_cons (pe_lst pa_nil) pa_nil))) (pa_cons (pe_lst pa_nil) pa_nil)))))))), ?_⟩
  refine ⟨(by show 0 ≤ sizeLine; decide), fun t ht => ?_⟩
  have td : t ≠ d := hd.ne ht
  refine ⟨_, rfl, d, m, rfl, by omega, dr_upd hd td, fun z1 H1 z10 z11 S1 hd1 => .inl ⟨z1, rfl, z1, 3, rfl, rfl, (by show (0 : Int) < 3; decide), 1, _, rfl, rfl, ?_⟩⟩
  refine ⟨_, rfl, d, m + 1, rfl, by omega, hd1, fun z2 H2 z20 z21 S2 hd2 => .inl ⟨z2, rfl, z2, 2, rfl, rfl, (by show (0 : Int) < 2; decide), 1, _, rfl, rfl, ?_⟩⟩
  have S02 : SameX d H H2 := (sx (same_new ht (.lst []))).trans (S1.trans S2)
  have hT2 : H2 t = some (.lst []) := S2 t _ td (S1 t _ td upd_same)
  refine while_by (wRow H d m L) (muR L) ?_ (fun σ H3 p => ?_) ?_
  · exact ⟨t, 1 + z1 % 3, 1 + z2 % 2, none, none, [], rfl, by omega, by omega, S02, ht, hT2, fun r hr => absurd hr List.not_mem_nil, Nat.zero_le _, hd2⟩
  · obtain ⟨t, hd', tl, o5, o6, us, rfl, hhd, htl, S3, ht, hT, hU, hl, hd3⟩ := p
    have td : t ≠ d := hd3.neO hT fun _ _ _ => refs_ne
    refine ⟨_, rfl, t, _, rfl, .inl (SqL.of hT), _, rfl, _, _, rfl, rfl, _, rfl, ite2 (fun c => ?_) (fun c => ?_)⟩
    · have c' : us.length < L := by
        have := of_decide_eq_true c
        rw [List.length_map] at this
        omega
      refine ⟨_, rfl, d, m + 2 + 6 * us.length, rfl, by omega, hd3, fun z4 H4 z40 z41 S4 hd4 => .inl ⟨z4, rfl, z4, 7, rfl, rfl, (by show (0 : Int) < 7; decide), _, 0, rfl, rfl, _, rfl, ite2 (fun _ => ?_) (fun _ => ?_)⟩⟩
      · have u4 : ∀ r ∈ us, r.1 ≠ d := fun r hr => hd3.neO (hU r hr).2.1 fun _ _ _ => LI_ne
        refine ⟨_, rfl, d, m + 2 + 6 * us.length + 1, rfl, by omega, hd4, fun z5 H5 z50 z51 S5 hd5 => .inl ⟨z5, rfl, _, rfl, z5, hd', rfl, rfl, (by show (0 : Int) < hd'; omega), 5, _, rfl, rfl, .inl ⟨by decide, by decide⟩, 5, _, rfl, rfl, ?_⟩⟩
        have bz5 : 0 ≤ z5 % hd' ∧ z5 % hd' < 3 := ⟨Int.emod_nonneg _ (by omega), Int.lt_of_lt_of_le (Int.emod_lt_of_pos _ (by omega)) hhd.2⟩
        refine ⟨_, rfl, d, m + 2 + 6 * us.length + 1 + 1, rfl, by omega, hd5, fun z6 H6 z60 z61 S6 hd6 => .inl ⟨z6, rfl, z6, 3, rfl, rfl, (by show (0 : Int) < 3; decide), _, rfl, (by show -(2 ^ 62) ≤ z6 % 3; omega), (by show z6 % 3 < 2 ^ 62; omega), fun D hD => ?_⟩⟩
        have S36 : SameX d H3 H6 := S4.trans (S5.trans S6)
        have Dd : D ≠ d := hd6.ne hD
        refine lc_range (lo := 0) (n := (z6 % 3).toNat) (fun j H' => SameX d H6 H' ∧ Dr H' d (m + 2 + 6 * us.length + 1 + 1 + 1 + j) ∧ ∃ ns : List Int, H' D = some (LI ns) ∧ ns.length = j ∧ ∀ z ∈ ns, -100 ≤ z ∧ z ≤ 100) ?_ (fun j H' hj p => ?_) (fun H7 p => ?_)
        · exact ⟨sx (same_new hD _), dr_upd hd6 Dd, [], upd_same, rfl, fun z hz => absurd hz List.not_mem_nil⟩
        · obtain ⟨S, hdr, ns, hns, hl', hb⟩ := p
          refine ⟨wipe1, ?_⟩
          refine yes_of ?_
          refine ⟨_, rfl, _, 1, rfl, rfl, _, rfl, d, m + 2 + 6 * us.length + 1 + 1 + 1 + j, rfl, by omega, hdr, fun z H8 z80 z81 S8 hd8 => .inl ⟨z, rfl, _, rfl, z, tl, rfl, rfl, (by show (0 : Int) < tl; omega), _, _, rfl, rfl, ?_⟩⟩
          have bz : 0 ≤ z % tl ∧ z % tl < 2 := ⟨Int.emod_nonneg _ (by omega), Int.lt_of_lt_of_le (Int.emod_lt_of_pos _ (by omega)) htl.2⟩
          refine ⟨_, S8 D _ Dd hns, by rw [List.length_map, hl']; exact smallT (by omega), fun b o hb' e => ?_, dr_upd hd8 Dd, ns ++ [5 + 5 * (z5 % hd') - 1 - z % tl], ?_, ?_, ?_⟩
          · rw [upd_ne (ne_of_none e hD)]
            exact S8 b o hb' (S b o hb' e)
          · rw [upd_same]; exact congrArg (fun l => some (HO.lst l)) (LI_snoc ns _)
          · rw [List.length_append, hl']; rfl
          · intro y hy
            rcases List.mem_append.mp hy with h1 | h1
            · exact hb y h1
            · rw [List.mem_singleton.mp h1]; omega
        · obtain ⟨S7, hd7, ns, hns, hl', hb⟩ := p
          have S37 : SameX d H3 H7 := S36.trans S7
          have hT7 : H7 t = some (.lst (us.map rf)) := S37 t _ td hT
          refine ⟨_, rfl, .inl ⟨rfl, _, .inl (.inl hT7)⟩, _, rfl, (by show 1 ≤ sizeLine; decide), fun p3 hp3 => ?_⟩
          have S8 := same_new hp3 (.lst [.int (5 + 5 * (z5 % hd'))])
          refine ⟨_, rfl, p3, D, _, _, rfl, rfl, upd_same, S8 _ _ hns, small (by rw [List.length_map, hl', List.length_singleton]; omega), fun p4 hp4 => ?_⟩
          have S9 := S8.trans (same_new hp4 (.lst ([.int (5 + 5 * (z5 % hd'))] ++ ns.map V.int)))
          have S39 := S37.trans (sx S9)
          have hT9 := S9 _ _ hT7
          have n4 : p4 ≠ t := ne_of_none' (S8 _ _ hT7) hp4
          have hd9 := hd7.same S9
          refine ⟨t, _, _, rfl, rfl, hT9, by rw [List.length_map]; exact smallT (by omega), ⟨t, hd', tl, _, _, us ++ [(p4, (5 + 5 * (z5 % hd')) :: ns)], rfl, hhd, htl, fun b o hb' e => ?_, ht, ?_, fun r hr => ?_, ?_, ?_⟩, ?_⟩
          · have e3 := S3 b o hb' e
            rw [upd_ne (ne_of_none e ht)]
            exact S39 b o hb' e3
          · rw [upd_same, List.map_append]
            rfl
          · rcases List.mem_append.mp hr with h1 | h1
            · obtain ⟨e1, e2, e3⟩ := hU r h1
              exact ⟨e1, by rw [upd_ne e1]; exact S39 _ _ (u4 r h1) e2, e3⟩
            · rw [List.mem_singleton.mp h1]
              refine ⟨n4, by rw [upd_ne n4, upd_same]; rfl, List.cons_ne_nil _ _, ?_, fun y hy => ?_⟩
              · show ns.length + 1 ≤ 3
                omega
              · rcases List.mem_cons.mp hy with h2 | h2
                · rw [h2]; omega
                · have := hb y h2; omega
          · rw [List.length_append, List.length_singleton]
            omega
          · refine (dr_upd hd9 td).mono ?_
            rw [List.length_append, List.length_singleton]
            omega
          · show muR L [some (.ref d), some (.int L), some (.ref t), some (.int hd'), some (.int tl), _, _, none, none] _ < muR L [some (.ref d), some (.int L), some (.ref t), some (.int hd'), some (.int tl), o5, o6, none, none] H3
            unfold muR
            simp only [upd_same, hT, List.length_append, List.length_map, List.length_singleton]
            exact Nat.sub_lt_sub_left c' (Nat.lt_succ_self _)
      · exact row_end (S3.trans S4) (hd4.mono (by omega)) (S4 _ _ td hT) (fun r hr => let ⟨e1, e2, e3⟩ := hU r hr; ⟨e1, S4 _ _ (hd3.neO e2 fun _ _ _ => LI_ne) e2, e3⟩) (by omega) q
    · exact iteF (row_end S3 (hd3.mono (by omega)) hT hU (by omega) q)
  · intro σ H Q Q' hQ h
    obtain ⟨v, e, p, xs, e1, e2, v2, e3, i, j, e4, e5, k, e6, h⟩ := h
    refine ⟨v, e, p, xs, e1, e2, v2, e3, i, j, e4, e5, k, e6, ?_⟩
    cases k with
    | false => exact iteF (hQ _ _ (by simpa using h))
    | true =>
      refine iteT ?_
      rw [if_pos rfl] at h
      obtain ⟨v, e, d, m, e1, e2, e3, h⟩ := h
      refine ⟨v, e, d, m, e1, e2, e3, fun z H1 z0 z1 S1 hd1 => ?_⟩
      rcases h z H1 z0 z1 S1 hd1 with ⟨i, e1, i2, j, e2, e3, e4, i3, j3, e5, e6, k, e7, h⟩ | ⟨k, e1, _⟩
      · exact .inl ⟨i, e1, i2, j, e2, e3, e4, i3, j3, e5, e6, k, e7, hQ _ _ h⟩
      · cases e1
end
end MU
namespace MU
open PySem L2
section
variable {P : Program} {w : World} {K : PySem.W.Frag} {mg : Str → Option Value} {base : Heap} {f g g2 C fI : Addr} {fd gd gd2 : FuncData}
theorem scLM : FnScope ["_law_one", "_law_other", "_law_told", "_law_left", "_law_right_here"] ["_law_one", "_law_other"] (defScope sLMgd) := ⟨rfl, rfl, rfl, by decide +kernel, rfl, by decide +kernel, by decide +kernel⟩
def wLM (H : Hp) (xs ys : List Int) (σ : St) (H' : Hp) : Prop := ∃ (a b t l r : Addr) (as bs ts : List Int), σ = [some (.ref a), some (.ref b), some (.ref t), some (.ref l), some (.ref r)] ∧ Same H H' ∧ (H t = none ∧ H l = none ∧ H r = none) ∧ (t ≠ l ∧ t ≠ r ∧ l ≠ r) ∧
  H' t = some (LI ts) ∧ H' l = some (LI as) ∧ H' r = some (LI bs) ∧ ts ++ mrg as bs = mrg xs ys ∧ ts.length + as.length + bs.length = xs.length + ys.length
theorem idx0 (n : Nat) : seqIndex? 0 (n + 1) = some 0 := PySem.StrLaws.seqIndex_nonneg (by decide) (by omega)
theorem ok_lm (F : Fun K "_law_merged" "_law_merged" sLMgd f fd) (T : Gs mg) : FnOk P w K mg base CX0 1 f fd ["_law_one", "_law_other"] spMgd := by
  refine F.ok scLM (fun vs H Q E h => ?_) (fun cdv A outer s H vs Q E hr h => ?_)
  · obtain ⟨a, b, xs, ys, rfl, _⟩ := h
    rfl
  obtain ⟨a, b, xs, ys, rfl, hA, hB, hz, q⟩ := h
  have hz' : (mrg xs ys).length ≤ 1000000 := by rw [mrg_len]; exact hz
  refine ⟨_, pss_cons (ps_if (PW.pt (pw_or (pt_cmpR (op_eqD hr.units) (pv 0) (pe_lst pa_nil) (nomark _)) (pw_or1 (pt_cmpR (op_eqD hr.units) (pv 1) (pe_lst pa_nil) (nomark _))))) (pss_one (ps_ret (pe_op op_cat (pv 0) (pv 1)))) pss_nil)
    (pss_cons (ps_set (i := 2) scLM.nd rfl (.inl rfl) (pe_lst pa_nil))
    (pss_cons (ps_par (i := 3) (j := 4) rfl scLM.nd rfl rfl (by decide) rfl rfl (pa_cons (pe_callTy call_list_of (by rfl) T.list (by decide +kernel) (pa_cons (pv 0) pa_nil)) (pa_cons (pe_callTy call_list_of (by rfl) T.list (by decide +kernel) (pa_cons (pv 1) pa_nil)) pa_nil)) (by rfl))
    (pss_cons (ps_while PassesOwn.never (PW.pt (pw_and (pt_cmpR (op_neD hr.units) (pv 3) (pe_lst pa_nil) (nomark _)) (pw_and1 (pt_cmpR (op_neD hr.units) (pv 4) (pe_lst pa_nil) (nomark _)))))
      (pss_one (ps_expr (pe_bm PySem.F.plainAttrs_list PySem.F.slot_list_append PySem.F.type_list_append mt_append (pv 2)
        (pa_cons (pe_ifExp (pt_cmpR op_lt (pe_ix ix_list (pv 4) pe_int (fun _ _ => rfl)) (pe_ix ix_list (pv 3) pe_int (fun _ _ => rfl)) (nomark _))
          (pe_bm PySem.F.plainAttrs_list PySem.F.slot_list_pop PySem.F.type_list_pop mt_popAt (pv 4) (pa_cons pe_int pa_nil))
          (pe_bm PySem.F.plainAttrs_list PySem.F.slot_list_pop PySem.F.type_list_pop mt_popAt (pv 3) (pa_cons pe_int pa_nil))) pa_nil)))))
    (pss_one (ps_ret (pe_op op_cat (pe_op op_cat (pv 2) (pv 3)) (pv 4))))))), ?_⟩
  refine ⟨_, rfl, (by show 0 ≤ sizeLine; decide), fun p1 np1 => ?_⟩
  have S1 := same_new np1 (.lst [])
  refine ⟨_, .list [], dp_ints (S1 _ _ hA), .lst (SqL.of upd_same) .nil, shaped_ints xs, shaped_ints [], _, rfl, ?_⟩
  have short : ∀ H1, Same H H1 → xs ++ ys = mrg xs ys → tRet (tOp rCat (tVar 0) (tVar 1)) { nx := fun _ H' => Q .non H', rt := Q } [some (.ref a), some (.ref b), none, none, none] H1 := fun H1 S e => by
    refine ⟨_, rfl, _, rfl, a, b, _, _, rfl, rfl, S _ _ hA, S _ _ hB, small (by rw [List.length_map, List.length_map]; exact hz), fun p hp => q p _ (S.trans (same_new hp _)) (S.free hp) ?_⟩
    rw [upd_same, LI_append, e]
  cases xs with
  | nil => exact iteT (iteT (short _ S1 (mrg_nl ys).symm))
  | cons x xs =>
    refine iteF ?_
    refine ⟨_, rfl, (by show 0 ≤ sizeLine; decide), fun p2 np2 => ?_⟩
    have S2 := S1.trans (same_new np2 (.lst []))
    refine ⟨_, .list [], dp_ints (S2 _ _ hB), .lst (SqL.of upd_same) .nil, shaped_ints ys, shaped_ints [], _, rfl, ?_⟩
    cases ys with
    | nil => exact iteT (short _ S2 (by rw [List.append_nil, mrg_nr]))
    | cons y ys =>
      refine iteF ?_
      generalize hH2 : upd (upd H p1 (.lst [])) p2 (.lst []) = H2 at S2 ⊢
      refine ⟨(by show 0 ≤ sizeLine; decide), fun t ht => ?_⟩
      have S3 := S2.trans (same_new ht (.lst []))
      refine ⟨_, rfl, a, _, rfl, .inl (SqL.of (S3 _ _ hA)), fun l hl => ?_⟩
      have S4 := S3.trans (same_new hl (.lst ((x :: xs).map V.int)))
      refine ⟨_, rfl, b, _, rfl, .inl (SqL.of (S4 _ _ hB)), fun r hr' => ?_⟩
      have S5 := S4.trans (same_new hr' (.lst ((y :: ys).map V.int)))
      refine ⟨_, _, rfl, ?_⟩
      refine while_by (wLM H (x :: xs) (y :: ys)) muM ?_ (fun σ H1 p => ?_) ?_
      · refine ⟨a, b, t, l, r, x :: xs, y :: ys, [], rfl, S5, ⟨S2.free ht, S3.free hl, S4.free hr'⟩, ⟨ne_of_none upd_same hl, ne_of_none (same_new hl (.lst ((x :: xs).map V.int)) _ _ upd_same) hr', ne_of_none upd_same hr'⟩, ?_, ?_, upd_same, rfl, by simp⟩
        · exact same_new hr' _ _ _ (same_new hl _ _ _ upd_same)
        · exact same_new hr' _ _ _ upd_same
      · obtain ⟨a, b, t, l, r, as, bs, ts, rfl, S, ⟨ft, fl, fr⟩, ⟨ntl, ntr, nlr⟩, hT, hL, hR, em, ez⟩ := p
        refine ⟨_, rfl, (by show 0 ≤ sizeLine; decide), fun p1 np1 => ?_⟩
        have S1 := same_new np1 (.lst [])
        refine ⟨_, .list [], dp_ints (S1 _ _ hL), .lst (SqL.of upd_same) .nil, shaped_ints as, shaped_ints [], _, rfl, ?_⟩
        cases as with
        | nil => exact iteF (iteF (mgd_end (S.trans S1) (S1 _ _ hT) (S1 _ _ hL) (S1 _ _ hR) (by rw [List.append_nil, ← em, mrg_nl]) hz' q))
        | cons u as =>
          refine iteT ?_
          refine ⟨_, rfl, (by show 0 ≤ sizeLine; decide), fun p2 np2 => ?_⟩
          have S12 := S1.trans (same_new np2 (.lst []))
          refine ⟨_, .list [], dp_ints (S12 _ _ hR), .lst (SqL.of upd_same) .nil, shaped_ints bs, shaped_ints [], _, rfl, ?_⟩
          cases bs with
          | nil => exact iteF (mgd_end (S.trans S12) (S12 _ _ hT) (S12 _ _ hL) (S12 _ _ hR) (by rw [List.append_nil, ← em, mrg_nr]) hz' q)
          | cons v bs =>
            refine iteT ?_
            have hz2 : ts.length + (as.length + 1) + (bs.length + 1) ≤ 1000000 := by
              have h1 : (u :: as).length = as.length + 1 := rfl
              have h2 : (v :: bs).length = bs.length + 1 := rfl
              omega
            generalize hH3 : upd (upd H1 p1 (.lst [])) p2 (.lst []) = H3 at S12 ⊢
            have gT := S12 _ _ hT
            have gL := S12 _ _ hL
            have gR := S12 _ _ hR
            refine ⟨_, rfl, .inl ⟨rfl, _, .inl (.inl gT)⟩, _, rfl, r, _, 0, _, rfl, rfl, SqL.of gR, atI_nat (j := 0) rfl, _, rfl, l, _, 0, _, rfl, rfl, SqL.of gL, atI_nat (j := 0) rfl, _, _, rfl, rfl, _, rfl, ite2 (fun c => ?_) (fun c => ?_)⟩
            · have c' : v < u := of_decide_eq_true c
              refine ⟨_, rfl, .inl ⟨rfl, _, .inl (.inl gR)⟩, r, _, 0, 0, _, rfl, rfl, gR, by decide, by decide, idx0 _, rfl, ?_⟩
              have gT4 : upd H3 r (.lst (((v :: bs).map V.int).eraseIdx 0)) t = some (LI ts) := by rw [upd_ne ntr]; exact gT
              refine ⟨t, _, _, rfl, rfl, gT4, by rw [List.length_map]; exact smallT (by omega), ⟨a, b, t, l, r, u :: as, bs, ts ++ [v], rfl, fun z o e => ?_, ⟨ft, fl, fr⟩, ⟨ntl, ntr, nlr⟩, ?_, ?_, ?_, ?_, ?_⟩, ?_⟩
              · rw [upd_ne (ne_of_none e ft), upd_ne (ne_of_none e fr)]
                exact S12 _ _ (S z o e)
              · rw [upd_same]; exact congrArg (fun l => some (HO.lst l)) (LI_snoc ts v)
              · rw [upd_ne (Ne.symm ntl), upd_ne nlr]; exact gL
              · rw [upd_ne (Ne.symm ntr), upd_same]; rfl
              · rw [← em, mrg_lt _ _ c', List.append_assoc]
                rfl
              · rw [← ez, List.length_append]
                show ts.length + 1 + (as.length + 1) + bs.length = ts.length + (as.length + 1) + (bs.length + 1)
                omega
              · show muM [some (.ref a), some (.ref b), some (.ref t), some (.ref l), some (.ref r)] _ < muM [some (.ref a), some (.ref b), some (.ref t), some (.ref l), some (.ref r)] _
                unfold muM
                simp only [upd_ne (Ne.symm ntl), upd_ne nlr, upd_ne (Ne.symm ntr), upd_same, gL, hL, hR, List.length_map, List.length_cons]
                exact Nat.add_lt_add_left (by rw [List.length_eraseIdx]; simp) _
            · have c' : ¬ v < u := of_decide_eq_false (Bool.eq_false_iff.mpr c)
              refine ⟨_, rfl, .inl ⟨rfl, _, .inl (.inl gL)⟩, l, _, 0, 0, _, rfl, rfl, gL, by decide, by decide, idx0 _, rfl, ?_⟩
              have gT4 : upd H3 l (.lst (((u :: as).map V.int).eraseIdx 0)) t = some (LI ts) := by rw [upd_ne ntl]; exact gT
              refine ⟨t, _, _, rfl, rfl, gT4, by rw [List.length_map]; exact smallT (by omega), ⟨a, b, t, l, r, as, v :: bs, ts ++ [u], rfl, fun z o e => ?_, ⟨ft, fl, fr⟩, ⟨ntl, ntr, nlr⟩, ?_, ?_, ?_, ?_, ?_⟩, ?_⟩
              · rw [upd_ne (ne_of_none e ft), upd_ne (ne_of_none e fl)]
                exact S12 _ _ (S z o e)
              · rw [upd_same]; exact congrArg (fun l => some (HO.lst l)) (LI_snoc ts u)
              · rw [upd_ne (Ne.symm ntl), upd_same]; rfl
              · rw [upd_ne (Ne.symm ntr), upd_ne (Ne.symm nlr)]; exact gR
              · rw [← em, mrg_ge _ _ c', List.append_assoc]
                rfl
              · rw [← ez, List.length_append]
                show ts.length + 1 + as.length + (bs.length + 1) = ts.length + (as.length + 1) + (bs.length + 1)
                omega
              · show muM [some (.ref a), some (.ref b), some (.ref t), some (.ref l), some (.ref r)] _ < muM [some (.ref a), some (.ref b), some (.ref t), some (.ref l), some (.ref r)] _
                unfold muM
                simp only [upd_ne (Ne.symm ntl), upd_ne (Ne.symm nlr), upd_ne (Ne.symm ntr), upd_same, gR, hL, hR, List.length_map, List.length_cons]
                exact Nat.add_lt_add_right (by rw [List.length_eraseIdx]; simp) _
      · intro σ H Q Q' hQ h
        obtain ⟨v, e, hs, h⟩ := h
        refine ⟨v, e, hs, fun p np => ?_⟩
        obtain ⟨d, e', h1, h2, h3, h4, k, hk, h5⟩ := h p np
        refine ⟨d, e', h1, h2, h3, h4, k, hk, ?_⟩
        cases k with
        | false => exact iteF (hQ _ _ (by simpa using h5))
        | true =>
          refine iteT ?_
          rw [if_pos rfl] at h5
          obtain ⟨v, e, hs, h⟩ := h5
          refine ⟨v, e, hs, fun p np => ?_⟩
          obtain ⟨d, e', h1, h2, h3, h4, k, hk, h5⟩ := h p np
          exact ⟨d, e', h1, h2, h3, h4, k, hk, hQ _ _ h5⟩
end
end MU
namespace MU
open PySem L2
section
variable {P : Program} {w : World} {K : PySem.W.Frag} {mg : Str → Option Value} {base : Heap} {f g g2 C fI : Addr} {fd gd gd2 : FuncData}
def spTree (n : Nat) : Sp := fun vs H Q _ => ∃ (d a : Addr) (rs : List (Addr × List Int)) (m : Nat), vs = [.ref d, .ref a] ∧ H a = some (.lst (rs.map rf)) ∧ LLs H rs ∧ (1 ≤ rs.length ∧ rs.length ≤ n ∧ rs.length ≤ 100) ∧ (∀ r ∈ rs, r.2.length ≤ 1000) ∧ m + rs.length ≤ 900000 ∧ Dr H d m ∧
  ∀ (r : Addr) (H' : Hp), SameX d H H' → Dr H' d (m + (rs.length - 1)) → H' r = some (LI (foldM (rs.map (·.2)))) → Q (.ref r) H'
theorem scTree : FnScope ["_law_draws_here", "_law_some", "_law_at"] ["_law_draws_here", "_law_some"] (defScope sTree) := ⟨rfl, rfl, rfl, by decide +kernel, rfl, by decide +kernel, by decide +kernel⟩
theorem LLs.x {d : Addr} {H H' : Hp} {rs : List (Addr × List Int)} {m : Nat} (h : LLs H rs) (hd : Dr H d m) (S : SameX d H H') : LLs H' rs := fun r hr => S _ _ (hd.neO (h r hr) fun _ _ _ => LI_ne) (h r hr)
theorem fold_len {rs : List (Addr × List Int)} (h1 : rs.length ≤ 100) (h2 : ∀ r ∈ rs, r.2.length ≤ 1000) : (foldM (rs.map (·.2))).length ≤ 100000 := by
  have := fold_small h1 h2 rs.length
  rw [List.take_length] at this
  exact this
theorem tree_none : FnOk P w K mg base CX0 3 f fd ["_law_draws_here", "_law_some"] (spTree 0) := by
  have no : ∀ vs H Q E, ¬ spTree 0 vs H Q E := fun vs H Q E h => by
    obtain ⟨d, a, rs, m, _, _, _, h1, _⟩ := h
    omega
  exact ⟨fun vs H Q E h => absurd h (no vs H Q E), fun A outer s H args us vs Q E _ _ _ _ h => absurd h (no vs H Q E)⟩
theorem tree_step {n : Nat} (F : Fun K "_law_by_tree" "_law_by_tree" sTree f fd) (T : Gs mg) (bF : Binds K fd ["_law_draws_here", "_law_some"] []) (mF : mg "_law_by_tree" = some (.ref f)) (S0 : FnOk P w K mg base CX0 (n + 3) f fd ["_law_draws_here", "_law_some"] (spTree n))
    (G : FnOk P w K mg base CX0 1 g gd ["_law_draws_here"] spNext) (bG : Binds K gd ["_law_draws_here"] []) (kG : PySem.W.keepIn K (.ref g) = true) (mG : mg "_law_next" = some (.ref g))
    (G2 : FnOk P w K mg base CX0 3 g2 gd2 ["one", "other"] spMgd) (bG2 : Binds K gd2 ["one", "other"] []) (kG2 : PySem.W.keepIn K (.ref g2) = true) (mG2 : mg "merge" = some (.ref g2)) :
    FnOk P w K mg base CX0 (n + 3 + 1) f fd ["_law_draws_here", "_law_some"] (spTree (n + 1)) := by
  refine F.ok scTree (fun vs H Q E h => ?_) (fun cdv A outer s H vs Q E hr h => ?_)
  · obtain ⟨d, a, rs, m, rfl, _⟩ := h
    rfl
  obtain ⟨d, a, rs, m, rfl, hA, hL, ⟨h1, h2, h100⟩, h1000, hm, hd, q⟩ := h
  refine ⟨_, pss_cons (ps_if (pt_cmpR op_eq (pe_callB call_len_seq (by rfl) T.len PySem.boot_len (pa_cons (pv 1) pa_nil)) pe_int (nomark _)) (pss_one (ps_ret (pe_ix ix_list (pv 1) pe_int (fun _ _ => rfl)))) pss_nil)
    (pss_cons (ps_set (i := 2) scTree.nd rfl (.inl rfl) (pe_op op_add pe_int (pe_op op_mod (pe_callTy call_int1 (by rfl) T.int (by decide +kernel) (pa_cons (pe_call G (hr.mono (by omega)) rfl mG kG bG .nil pass0 (pa_cons (pv 0) pa_nil)) pa_nil))
      (pe_op op_sub (pe_callB call_len_seq (by rfl) T.len PySem.boot_len (pa_cons (pv 1) pa_nil)) pe_int))))
    (pss_one (ps_ret (pe_call G2 (hr.mono (by omega)) rfl mG2 kG2 bG2 .nil pass0 (pa_cons (pe_call S0 hr rfl mF F.kp bF .nil pass0 (pa_cons (pv 0) (pa_cons (pe_slice sl_list (pv 1) po_none (po_some (pv 2))) pa_nil)))
      (pa_cons (pe_call S0 hr rfl mF F.kp bF .nil pass0 (pa_cons (pv 0) (pa_cons (pe_slice sl_list (pv 1) (po_some (pv 2)) po_none) pa_nil))) pa_nil)))))), ?_⟩
  have hlen : (rs.map rf).length = rs.length := List.length_map _
  refine ⟨_, rfl, a, _, rfl, .inl (SqL.of hA), rfl, _, rfl, ite2 (fun c => ?_) (fun c => ?_)⟩
  · have c' : V.int ((rs.map rf).length : Nat) = V.int 1 := of_decide_eq_true c
    have c2 : rs.length = 1 := by have := V.int.inj c'; rw [hlen] at this; omega
    match rs, c2, hA, hL, q with
    | [r], _, hA, hL, q => exact ⟨_, rfl, a, _, 0, _, rfl, rfl, SqL.of hA, atI_nat (j := 0) rfl, q r.1 H (SameX.refl d H) (hd.mono (by omega)) (by rw [hL r List.mem_cons_self]; exact congrArg (fun l => some (LI l)) (foldM_one _).symm)⟩
  · have c' : ¬ V.int ((rs.map rf).length : Nat) = V.int 1 := of_decide_eq_false (Bool.eq_false_iff.mpr c)
    have c2 : 2 ≤ rs.length := by
      rw [hlen] at c'
      have : rs.length ≠ 1 := fun e => c' (by rw [e]; rfl)
      omega
    refine ⟨_, rfl, d, m, rfl, by omega, hd, fun z H1 z0 z1 S1 hd1 => .inl ⟨z, rfl, ?_⟩⟩
    have hA1 : H1 a = some (.lst (rs.map rf)) := S1 a _ (hd.neO hA fun _ _ _ => refs_ne) hA
    have hL1 := hL.x hd S1
    refine ⟨_, rfl, a, _, rfl, .inl (SqL.of hA1), _, 1, rfl, rfl, z, _, rfl, rfl, (by show (0 : Int) < ((rs.map rf).length : Int) - 1; rw [hlen]; omega), 1, _, rfl, rfl, ?_⟩
    obtain ⟨k, hk, hk1, hk2⟩ : ∃ k : Nat, 1 + z % (((rs.map rf).length : Int) - 1) = (k : Int) ∧ 1 ≤ k ∧ k < rs.length := by
      rw [hlen]
      have b0 : 0 ≤ z % ((rs.length : Int) - 1) := Int.emod_nonneg _ (by omega)
      have b1 : z % ((rs.length : Int) - 1) < (rs.length : Int) - 1 := Int.emod_lt_of_pos _ (by omega)
      exact ⟨(1 + z % ((rs.length : Int) - 1)).toNat, by omega, by omega, by omega⟩
    have hk' : (fun i j : Int => V.int (i + j)) 1 (z % (((rs.map rf).length : Int) - 1)) = V.int k := congrArg V.int hk
    refine ⟨_, rfl, _, rfl, _, rfl, k, hk', a, _, rfl, SqL.of hA1, fun p hp => ?_⟩
    have e1 : cutV (rs.map rf) none (some (k : Int)) = (rs.take k).map rf := by rw [cut_hd, List.map_take]
    have e2 : cutV (rs.map rf) (some (k : Int)) none = (rs.drop k).map rf := by rw [cut_from, List.map_drop]
    have P1 := same_new hp (.lst (cutV (rs.map rf) none (some (k : Int))))
    have l1 : (rs.take k).length = k := by rw [List.length_take]; omega
    have l2 : (rs.drop k).length = rs.length - k := List.length_drop
    refine ⟨d, p, rs.take k, m + 1, rfl, by rw [upd_same, e1], fun r hr => hL1.same P1 r (List.mem_of_mem_take hr), ⟨by omega, by omega, by omega⟩, fun r hr => h1000 r (List.mem_of_mem_take hr), by omega, hd1.same P1, fun r1 H2 S2 hd2 hr1 => ?_⟩
    have P2 : SameX d H1 H2 := (sx P1).trans S2
    have hA2 : H2 a = some (.lst (rs.map rf)) := P2 a _ (hd1.neO hA1 fun _ _ _ => refs_ne) hA1
    have hL2 := hL1.x hd1 P2
    refine ⟨_, rfl, _, rfl, _, rfl, k, hk', a, _, rfl, SqL.of hA2, fun p2 hp2 => ?_⟩
    have P3 := same_new hp2 (.lst (cutV (rs.map rf) (some (k : Int)) none))
    refine ⟨d, p2, rs.drop k, m + 1 + ((rs.take k).length - 1), rfl, by rw [upd_same, e2], fun r hr => hL2.same P3 r (List.mem_of_mem_drop hr), ⟨by omega, by omega, by omega⟩, fun r hr => h1000 r (List.mem_of_mem_drop hr), by omega, hd2.same P3, fun r2 H3 S3 hd3 hr2 => ?_⟩
    have P4 : SameX d H2 H3 := (sx P3).trans S3
    have hr13 := P4 r1 _ (hd2.neO hr1 fun _ _ _ => LI_ne) hr1
    have z1 := fold_len (rs := rs.take k) (by omega) fun r hr => h1000 r (List.mem_of_mem_take hr)
    have z2 := fold_len (rs := rs.drop k) (by omega) fun r hr => h1000 r (List.mem_of_mem_drop hr)
    refine ⟨r1, r2, _, _, rfl, hr13, hr2, ?_, fun p3 H4 S4 hp3 e3 => ?_⟩
    · show (foldM ((rs.take k).map (·.2))).length + (foldM ((rs.drop k).map (·.2))).length ≤ 1000000
      omega
    refine q p3 H4 (S1.trans (P2.trans (P4.trans (sx S4)))) ((hd3.same S4).mono (by omega)) ?_
    rw [e3, ← foldM_append, ← List.map_append, List.take_append_drop]
end
end MU
/-! a caught error that outlives its suite: try .. except x as n: suite, then the rest of the block with the error pinned -/
namespace MU
open PySem L2 PySem.Spec PyProof.Rows
section
variable {X : Cx} {pins : List (Addr × Obj)} {σ : L2.St} {H : Hp} {s : Shared} {a : Addr} {oe : Obj}
/-- out of the suite, the error still pinned -/
theorem pin_out {pn' : List (Addr × Obj)} (I : Inv (X.suite a ((a, oe) :: (X.pn ++ pins))) pn' σ H s) (ok : X.Ok) : Inv X ((a, oe) :: pins) σ H s where
  ok := ok
  os := I.os
  bare := I.bare
  base := I.base
  loc := I.loc
  cell := I.cell
  free := I.free
  freeC := I.freeC
  pin := fun p hp => I.pin p (List.mem_append_left _ (by
    rcases List.mem_append.mp hp with h | h
    · exact List.mem_cons_of_mem _ (List.mem_append_left _ h)
    · rcases List.mem_cons.mp h with e | h
      · rw [e]; exact List.mem_cons_self
      · exact List.mem_cons_of_mem _ (List.mem_append_right _ h)))
  hok := I.hok
  len := I.len
/-- the pin becomes the context's -/
theorem pin_in (I : Inv X ((a, oe) :: pins) σ H s) : Inv (X.tr ((a, oe) :: (X.pn ++ pins)) X.xe) [] σ H s where
  ok := I.ok.toTry _ _
  os := I.os
  bare := I.bare
  base := I.base
  loc := I.loc
  cell := I.cell
  free := I.free
  freeC := I.freeC
  pin := fun p hp => I.pin p (by
    rw [List.append_nil] at hp
    rcases List.mem_cons.mp hp with e | h
    · rw [e]; exact List.mem_append_right _ List.mem_cons_self
    · rcases List.mem_append.mp h with h | h
      · exact List.mem_append_left _ h
      · exact List.mem_append_right _ (List.mem_cons_of_mem _ h))
  hok := I.hok
  len := I.len
/-- .. and goes -/
theorem pin_gone {pn' : List (Addr × Obj)} (I : Inv (X.tr ((a, oe) :: (X.pn ++ pins)) X.xe) pn' σ H s) (ok : X.Ok) : Inv X pins σ H s where
  ok := ok
  os := I.os
  bare := I.bare
  base := I.base
  loc := I.loc
  cell := I.cell
  free := I.free
  freeC := I.freeC
  pin := fun p hp => I.pin p (List.mem_append_left _ (List.mem_cons_of_mem _ hp))
  hok := I.hok
  len := I.len
end
/-- the clause's wish: it takes the error; the rest stands in the pinned context -/
def wPin (K : PySem.W.Frag) (c : Value) (i : Nat) (ts tr : Addr → Value → Option Addr → TS) (D : Ends) : WX := fun cls d σ H => PySem.W.exmOne K cls c = some true ∧
  ∀ a, H a = none → ts a cls d { nx := fun σ' H' => tr a cls d D (σ'.set i none) H', rt := fun _ _ => False } (σ.set i (some (.ref a))) H
theorem not_frame {B h : Heap} {l : List Env} {a : Addr} {o : Obj} {vs : Array Value} (ff : h.FunFrames B l) (e : h.get? a = some o) (hd : o.data = .fields vs) : a ∉ frs l := fun hm => by
  obtain ⟨_, o', e', hn⟩ := ff.mem hm
  rw [e] at e'
  cases e'
  exact hn vs hd
section
variable {X : Cx} {i : Nat} {n x : Str} {c : Value} {body suite rest : List Stmt} {b₀ : Stmt} {np pos pos' : Pos} {tb : WX → TS} {ts tr : Addr → Value → Option Addr → TS}
theorem pss_try_pin (hs : X.stack = X.env :: X.outer) (hf : X.env.frame = some X.env.locals) (hN : X.N.Nodup) (hi : X.N[i]? = some n) (hln : X.env.kindOf n = some .local) (hc : Names X x c)
    (hb : ∀ (W : WX) (pn : List (Addr × Obj)) (xe : Value → Shared → Prop), Takes (X.tr pn xe) W → PassesOwn (model X.prog X.w) X.A X.env xe → PSs (X.tr pn xe) body (tb W))
    (hsu : ∀ (a : Addr) (oe : Obj) (cls : Value) (d : Option Addr) (pn : List (Addr × Obj)), Zc cls d oe → (∃ vs, oe.data = .fields vs) → PSs (X.suite a ((a, oe) :: pn)) (b₀ :: suite) (ts a cls d))
    (hre : ∀ (a : Addr) (oe : Obj) (cls : Value) (d : Option Addr) (pn : List (Addr × Obj)), Zc cls d oe → (∃ vs, oe.data = .fields vs) → PSs (X.tr ((a, oe) :: pn) X.xe) rest (tr a cls d)) :
    PSs X (.Try body [.ExceptHandler (some (.Name x np)) (some n) (b₀ :: suite) pos'] [] [] pos :: rest) (fun D σ H => tb (wPin X.K c i ts tr D) { nx := fun _ _ => False, rt := fun _ _ => False } σ H) := by
  refine ⟨fun pins s σ H D I h => ?_⟩
  have ok := I.ok
  have hfr : X.A.frames = some (X.env :: X.outer) := ok.frames.trans (congrArg some hs)
  -- what follows the statement
  have after : ∀ (a : Addr) (oe : Obj) (cls : Value) (d : Option Addr) (σ' : L2.St) (H' : Hp) (s' : Shared), Zc cls d oe → (∃ vs, oe.data = .fields vs) → Inv X ((a, oe) :: pins) σ' H' s' → tr a cls d D σ' H' →
      wpAny (model X.prog X.w) X.A (execs rest X.env) (SP X pins D) X.xe s' := fun a oe cls d σ' H' s' hz hv J q => by
    refine thn ((hre a oe cls d (X.pn ++ pins) hz hv).run [] s' σ' H' D (pin_in J) q) fun f s1 h1 => ?_
    cases f with
    | next => obtain ⟨σ1, H1, J1, q1⟩ := h1; exact ⟨σ1, H1, pin_gone J1 ok, q1⟩
    | brk => obtain ⟨σ1, H1, J1, q1⟩ := h1; exact ⟨σ1, H1, pin_gone J1 ok, q1⟩
    | cont => obtain ⟨σ1, H1, J1, q1⟩ := h1; exact ⟨σ1, H1, pin_gone J1 ok, q1⟩
    | ret u => obtain ⟨v, σ1, H1, J1, r1, q1⟩ := h1; exact ⟨v, σ1, H1, pin_gone J1 ok, r1, q1⟩
  refine wpAny_execs_cons (wpAny_Try_except ?_)
  refine wpAny_mono ((hb (wPin X.K c i ts tr D) (X.pn ++ pins) _ (fun u s' xx => ?_) PassesOwn.looking).run [] s σ H _ (I.toTry _) h) (fun f s1 hsp => ?_) (fun e s1 he => he)
  · obtain ⟨a, B, sI, pins', σ', H', cls, d, rfl, J0, nb, up, sky, na, os, ag, hx, hq⟩ := xx
    have J := J0.ofTry ok
    show wpAny (model X.prog X.w) X.A (noteFrame (.ref a) X.env) _ _ _
    refine Sky.land Zc.steady hfr hf (by rw [← hs]; exact sky) fun h3 fl3 up3 => ?_
    obtain ⟨oe3, vs3, he3, hz3, hd3⟩ := fl3.there
    have J3 : Inv X pins σ' H' { s' with heap := h3 } := J.landed nb fl3.1 (up.trans up3) os ag
    have far := not_frame fl3.2.2.1 he3 hd3
    have nL : a ≠ X.env.locals := fun z => far (List.mem_filterMap.mpr ⟨X.env, List.mem_cons_self, by rw [hf, z]⟩)
    have nF : a ∉ X.fs := fun hm => by
      obtain ⟨e, he, q⟩ := List.mem_filterMap.mp hm
      exact far (List.mem_filterMap.mpr ⟨e, List.mem_cons_of_mem _ he, q⟩)
    have S3 := J3.suite he3 hd3 na nL nF
    refine wpAny_handleBy_cons (codeAny_handlers_test ?_) (by intro q; cases q)
    have LT : PySem.W.Looks (model X.prog X.w) h3 (typeOf (.ref a)) cls := fun A Q E s k q => wpAny_typeOf_ref (k _ _ he3) (by rw [hz3.1]; exact q)
    have LM := PySem.W.exm_one (M := model X.prog X.w) J3.kIn LT hx
    have named : ∀ {Q E : Value → Shared → Prop}, Q c { s' with heap := h3 } → wpAny (model X.prog X.w) (X.A.mark (some (.ref a))) (eval (.Name x np) X.env) Q E { s' with heap := h3 } := fun {Q E} q => by
      obtain ⟨hg, hdbg, hm⟩ := hc
      rcases hm with hm | ⟨hm, hv, hnn⟩
      · exact ld_glob (X := X.suite a ((a, oe3) :: (X.pn ++ pins))) S3 hg hm q hdbg
      · exact ld_blt (X := X.suite a ((a, oe3) :: (X.pn ++ pins))) S3 hg hm hv q hnn hdbg
    refine named (LM.here ?_)
    refine codeAny_handlers_suite_as ?_
    refine HandSPX.lands_againZ fl3 fun h4 fl4 up4 => ?_
    obtain ⟨oe4, vs4, he4, hz4, hd4⟩ := fl4.there
    have J4 : Inv X pins σ' H' { s' with heap := h4 } := J.landed nb fl4.1 ((up.trans up3).trans up4) os ag
    have S4 := J4.suite he4 hd4 na nL nF
    refine store_ok (X := X.suite a ((a, oe4) :: (X.pn ++ pins))) (v := .ref a) S4 hN hi (.inl hln) rfl (fun s5 S5 => ?_) (.inr hln)
    refine wpAny_mono ((hsu a oe4 cls d (X.pn ++ pins) hz4 ⟨_, hd4⟩).run [] s5 _ H' _ S5 (hq a na)) (fun f s6 hsp => ?_) (fun _ _ z => False.elim z)
    cases f with
    | next =>
      obtain ⟨σ6, H6, S6, q6⟩ := hsp
      exact gone_ok (pin_out S6 ok) hN hi hln fun s7 J7 => after a oe4 cls d _ H6 s7 hz4 ⟨_, hd4⟩ J7 q6
    | brk => obtain ⟨σ6, H6, S6, q6⟩ := hsp; exact q6.elim
    | cont => obtain ⟨σ6, H6, S6, q6⟩ := hsp; exact q6.elim
    | ret u => obtain ⟨v6, σ6, H6, S6, r6, q6⟩ := hsp; exact q6.elim
  · cases f with
    | next => obtain ⟨σ', H', J', q⟩ := hsp; exact q.elim
    | brk => obtain ⟨σ', H', J', q⟩ := hsp; exact q.elim
    | cont => obtain ⟨σ', H', J', q⟩ := hsp; exact q.elim
    | ret u => obtain ⟨v, σ', H', J', r, q⟩ := hsp; exact q.elim
end
end MU
namespace MU
open PySem L2
/-! rules about an error that is pinned -/
def rIsP (K : PySem.W.Frag) (a : Addr) (cls : Value) (d : Option Addr) : List V → Hp → VK → Prop := fun xs H Q => ∃ (c : V) (cv : Value) (D dd : Addr) (b : Bool) (fs : List (Str × V)), xs = [.ref a, c] ∧ (∀ u, RelV c u → u = cv) ∧ cls = .ref D ∧ d = some dd ∧
  ExcC K D ∧ PySem.W.kitOne K (.ref D) cv = some b ∧ H dd = some (.xd fs) ∧ Q (.bl b) H
/-- repr of a whole number, of None -/
def rRep2 : List V → Hp → VK → Prop := fun xs H Q => (∃ i : Int, xs = [.int i] ∧ i.natAbs.log2 < 1920 ∧ Q (.str (toString i)) H) ∨ (xs = [.non] ∧ Q (.str "None") H)
section
variable {X : Cx}
theorem call_rep2 : CallR X (.builtin "repr") rRep2 := by
  intro pins s σ H xs us Q I r h
  rcases h with ⟨i, rfl, hz, q⟩ | ⟨rfl, q⟩
  · obtain ⟨u, rfl, t, rfl⟩ := vals1 r
    exact PySem.P.repr_of_int hz ⟨.str _, H, I.tok _, ⟨_, rfl⟩, q⟩
  · obtain ⟨u, rfl, r1⟩ := vals1 r
    cases r1
    exact PySem.P.repr_of_none ⟨.str _, H, I.tok _, ⟨_, rfl⟩, q⟩
variable {a : Addr} {oe : Obj} {cls : Value} {d : Option Addr}
theorem call_isP (hp : (a, oe) ∈ X.pn) (hz : Zc cls d oe) (hf : ∃ vs, oe.data = .fields vs) : CallR X (.builtin "isinstance") (rIsP X.K a cls d) := by
  intro pins s σ H xs us Q I r h
  obtain ⟨c, cv, D, dd, b, fs, rfl, hcv, rfl, rfl, C, e, hd, q⟩ := h
  obtain ⟨u1, u2, rfl, r1, r2⟩ := vals2 r
  cases r1
  have ec := hcv _ r2
  subst ec
  obtain ⟨hget, _⟩ := I.pin (a, oe) (List.mem_append_left _ hp)
  obtain ⟨vs, hv⟩ := hf
  obtain ⟨mA, hns, _⟩ := (show ObjOk X.prog X.w H s.heap dd (.xd fs) from I.hok dd _ hd)
  obtain ⟨od, ho, _⟩ := lookIn_ns hns
  have J : PySem.W.InstAt s.heap a oe D (some od) := ⟨hget, hz.1, by unfold PySem.W.notCls; rw [hv] <;> rfl, by rw [hz.2]; exact ho⟩
  obtain ⟨cd, hcd, _⟩ := PySem.W.any_some C.hd
  exact PySem.W.kia_one (PySem.W.kitx_exc (by rw [hcd]; rfl) C.hg C.hk C.hs C.ha C.hn C.ht C.hm) I.kIn J e (fun z => nomatch z) fun tk => ⟨.bl b, H, I.tok tk, rfl, q⟩
theorem pe_xp {C : Addr} {e : Expr} {te : TE} {pos : Pos} {n : Str} (T : XfC X.K C) (hno : PySem.W.findIn X.K (.ref C) n = some none) (hp : (a, oe) ∈ X.pn) (hz : Zc cls d oe) (hf : ∃ vs, oe.data = .fields vs) (he : PE X e te)
    (hb : attributeBase e n X.env (eval e X.env) = eval e X.env := by rfl) : PE X (.Attribute e n pos) (tXf a cls d C n te) := by
  refine ⟨fun pins s σ H Q I h => ?_⟩
  refine attr_of hb (thn (he.run pins s σ H _ I h) fun u s1 hh => ?_)
  obtain ⟨x, H1, I1, rx, rfl, rfl, dd, fs, v, rfl, ea, l, q⟩ := hh
  cases rx
  obtain ⟨hget, _⟩ := I1.pin (a, oe) (List.mem_append_left _ hp)
  obtain ⟨vs, hv⟩ := hf
  obtain ⟨mA, hns, hr⟩ := (show ObjOk X.prog X.w H1 s1.heap dd (.xd fs) from I1.hok dd _ ea)
  obtain ⟨od, ho, hl⟩ := lookIn_ns hns
  obtain ⟨u, hu, ru⟩ := RelO.some_of (v := v) (o := mA n) (by rw [← l]; exact hr n)
  have J : PySem.W.InstAt s1.heap a oe C (some od) := ⟨hget, hz.1, by unfold PySem.W.notCls; rw [hv] <;> rfl, by rw [hz.2]; exact ho⟩
  exact HandSPX.exc_get I1.kIn J T.ga T.gg T.exC (PySem.W.findObj_own T.hdC hno rfl (by rw [hl, hu])) (handed_of ru) ⟨v, H1, I1.tok _, ru, q⟩
end
section
variable {P : Program} {w : World} {K : PySem.W.Frag} {mg : Str → Option Value} {base : Heap} {f g g2 C fI : Addr} {fd gd gd2 : FuncData}
def spKept : Sp := fun vs H Q _ => ∃ v : V, vs = [v] ∧ ((NotL H v ∧ ∀ H', Same H H' → Q (.str "None") H') ∨ ∃ (a : Addr) (xs : List V) (i : Nat) (y : V), v = .ref a ∧ H a = some (.lst xs) ∧ xs[i]? = some y ∧ BadI H y ∧ (∀ j, j < i → ∀ x, xs[j]? = some x → FlatL H x true) ∧ i ≤ 1000000 ∧
  ∀ H', Same H H' → Q (.str (toString (i : Int))) H')
theorem scKept : FnScope ["_law_thing", "_law_kept_here", "error"] ["_law_thing"] (defScope sKept) := ⟨rfl, rfl, rfl, by decide +kernel, rfl, by decide +kernel, by decide +kernel⟩
theorem log_small {i : Nat} (h : i ≤ 1000000) : ((i : Int).natAbs).log2 < 1920 := PySem.Flt.log2_lt_of (by decide) (Nat.lt_of_le_of_lt h (by decide +kernel))
/-- how the kept error is told -/
def tTold (C : Addr) (K : PySem.W.Frag) (a : Addr) (cls : Value) (d : Option Addr) : TS := tRet (tIf (tOr (tTest (tOp (fun x y H Q => y = .non ∧ Q (.bl (decide (x = .non))) H) (tVar 1) (tC .non))) (tNot (tB (tCB (rIsP K a cls d) (tCons (tVar 1) (tCons (tC (.ty "ValueError")) tNil))))))
  (tC (.str "told")) (tCB rRep2 (tCons (tXf a cls d C "index" (tVar 1)) tNil)))
theorem ok_kept (F : Fun K "_law_kept" "_law_kept" sKept f fd) (T : Gs mg) (TE : ExT K mg C fI) (G : FnOk P w K mg base (L2.CX P w) 4 g gd ["lists"] (spMgA C)) (bG : Binds K gd ["lists"] []) (kG : PySem.W.keepIn K (.ref g) = true) (mG : mg "merge_all" = some (.ref g)) :
    FnOk P w K mg base CX0 5 f fd ["_law_thing"] spKept := by
  refine F.ok scKept (fun vs H Q E h => ?_) (fun cdv A outer s H vs Q E hr h => ?_)
  · obtain ⟨v, rfl, _⟩ := h
    rfl
  obtain ⟨v, rfl, h⟩ := h
  refine ⟨_, pss_cons (ps_set (i := 1) scKept.nd rfl (.inl rfl) pe_non)
    (pss_try_pin (i := 2) (tr := tTold C K) rfl rfl scKept.nd rfl rfl ⟨rfl, by decide, .inl TE.gC⟩
      (fun W pn xe tk _ => pss_one (ps_expr (pe_callS G hr rfl mG kG bG (fun σ => passAt tk σ) (pa_cons (pv 0) pa_nil))))
      (fun a oe cls d pn _ _ => pss_one (ps_set (i := 1) scKept.nd rfl (.inl rfl) (pv 2)))
      (fun a oe cls d pn hz hf => pss_one (ps_ret (pe_ifExp (PW.pt (pw_or (pt_cmpR op_isN (pv 1) pe_non (nomark _)) (pw_or1 (pt_not (pt_val (pe_callB (id := "isinstance") (r := rIsP K a cls d) (call_isP List.mem_cons_self hz hf) (by rfl) T.isi (by decide +kernel) (pa_cons (pv 1) (pa_cons (pe_bltn (v := .ty "ValueError") (u := .type "ValueError") (by rfl) T.verr (by decide +kernel) rfl) pa_nil))))))))
        pe_str (pe_callB call_rep2 (by rfl) T.repr (by decide +kernel) (pa_cons (pe_xp TE.xf TE.no List.mem_cons_self hz hf (pv 1)) pa_nil)))))), ?_⟩
  -- any error that comes is told by its index
  have told : ∀ (y : V) (z : Str) (H1 : Hp), Same H H1 → ((∃ i : Int, y = .int i ∧ i.natAbs.log2 < 1920 ∧ z = toString i) ∨ (y = .non ∧ z = "None")) → (∀ H', Same H H' → Q (.str z) H') →
      exits C H1 (WE (wPin K (.ref C) 2 (fun a cls d => tAsg (tVar 2) (gName 1)) (tTold C K) { nx := fun _ H' => Q .non H', rt := Q }) [some v, some .non, none]) y := fun y z H1 S hy q d H2 S2 hd e => by
    refine ⟨TE.te, fun a ha => ⟨_, rfl, ?_⟩⟩
    refine ⟨_, rfl, rfl, _, rfl, iteF ?_⟩
    refine ⟨_, rfl, .ty "ValueError", .type "ValueError", C, d, true, _, rfl, fun u h => h, rfl, rfl, TE.exc, TE.kv, e, true, rfl, iteF ?_⟩
    refine ⟨_, rfl, rfl, rfl, d, _, y, rfl, e, rfl, ?_⟩
    rcases hy with ⟨i, rfl, hl, rfl⟩ | ⟨rfl, rfl⟩
    · exact .inl ⟨i, rfl, hl, q H2 (S.trans S2)⟩
    · exact .inr ⟨rfl, q H2 (S.trans S2)⟩
  rcases h with ⟨hn, q⟩ | ⟨a, xs, i, y, rfl, hA, hi, hbad, hpre, hi6, q⟩
  · exact ⟨_, rfl, v, rfl, .inl (.inl ⟨hn, told .non "None" H (Same.refl H) (.inr ⟨rfl, rfl⟩) q⟩)⟩
  · exact ⟨_, rfl, .ref a, rfl, .inl (.inr ⟨a, xs, rfl, hA, i, y, hi, hbad, hpre, told (.int i) (toString (i : Int)) H (Same.refl H) (.inl ⟨i, rfl, log_small hi6, rfl⟩) q⟩)⟩
end
end MU
/-! defs that are called where no repr is under way: FnG is a def's promise for such callers (repr of a list asks who is under way) -/
namespace MU
open PySem L2
structure FnG (P : Program) (w : World) (K : PySem.W.Frag) (mg : Str → Option Value) (base : Heap) (k : Nat) (f : Addr) (fd : FuncData) (ps : List Str) (sp : Sp) : Prop where
  len : ∀ vs H Q E, sp vs H Q E → vs.length = ps.length
  go : ∀ A : Around, A.guards = some [] → Room k A → ∀ (outer : List Env) (s : Shared) (H : Hp) (args : Args) (us : List Value) (vs : List V) (Q : VK) (E : XK), Env0 P w K mg base A outer s H → BindsTo s fd args (ps.zip us) → Vals vs us → sp vs H Q E →
    codeAny (model P w) A (.call (.ref f) args) (CR CX0 outer P w H s Q E) s
section
variable {P : Program} {w : World} {K : PySem.W.Frag} {mg : Str → Option Value} {base : Heap} {f : Addr} {fd : FuncData}
/-- a def by its body, where nothing that is raised leaves it -/
theorem okG {x qual : Str} {st : Stmt} {N ps : List Str} {k : Nat} {sp : Sp} (F : Fun K x qual st f fd) (S : FnScope N ps (defScope st)) (len : ∀ vs H Q E, sp vs H Q E → vs.length = ps.length)
    (hbody : ∀ (cdv : Value) (A : Around) (outer : List Env) (s : Shared) (H : Hp) (vs : List V) (Q : VK) (E : XK), Room k (A.deeper (PyProof.Rows.envOfC qual (defScope st) s.heap.objs.size f cdv)) → A.guards = some [] → sp vs H Q E →
      ∃ t, PSs (cxOf CX0 P w K mg base N qual (defScope st) f cdv A outer s H E).nox (defBody st) t ∧ t { nx := fun _ H' => Q .non H', rt := Q } (start N vs) H) : FnG P w K mg base (k + 1) f fd ps sp := by
  obtain ⟨oc, od, kV, doc, pm, an, cdv, ct, osl, rfl, lk, hcd⟩ := F.ex
  refine ⟨len, fun A hg hr outer s H args us vs Q E e0 hb rv hsp => ?_⟩
  have KX : K.In s.heap := e0.mod.kin.keeps fun b o e => (e0.bs b o e).1
  have lim : s.heap.NoLimit := e0.mod.nolimit.keeps fun b o e => (e0.bs b o e).1
  refine codeAny_call_function hr.depth (KX _ _ lk) rfl S.co S.gen rfl (PySem.W.codeRec_of KX hcd) (hb _ _ _ _ ?_)
  refine wpAny_newFunctionEnv_cells S.kind (fun y hy => ?_) fun env he s1 x => ?_
  · obtain ⟨n, v⟩ := y
    exact (S.par n (List.of_mem_zip hy).1).imp (fun q => q) fun q => ⟨q, PySem.W.cellsFrom_some _ _ _ (.inl q)⟩
  subst he
  refine ⟨lim.keeps x.toInCall.keep, codeAny_func ?_⟩
  obtain ⟨t, ht, hq⟩ := hbody cdv A outer s H vs Q E (hr.deeper _) hg hsp
  have I := inv_start (CX := CX0) (P := P) (w := w) (K := K) (mg := mg) (base := base) (qual := qual) (f := f) (cd := cdv) (H := H) (E := E) S hr.hd e0 (len _ _ _ _ hsp) rv x
  refine wpAny_mono (ht.nox.run [] s1 (start N vs) H _ I hq) (fun fl s' hs => ?_) fun e s' hs => hs
  cases fl with
  | ret u =>
    obtain ⟨v, σ', H', J, r, q⟩ := hs
    exact ⟨v, H', J.os, J.bare, J.base, J.hok, r, q⟩
  | next =>
    obtain ⟨σ', H', J, q⟩ := hs
    exact ⟨.non, H', J.os, J.bare, J.base, J.hok, rfl, q⟩
  | brk => exact (let ⟨_, _, _, q⟩ := hs; False.elim q)
  | cont => exact (let ⟨_, _, _, q⟩ := hs; False.elim q)
end
section
variable {X : Cx} {k : Nat} {f : Addr} {fd : FuncData} {ps : List Str} {sp : Sp} {x : Str} {p pos : Pos} {e : Expr} {es : List Expr} {t : TA}
/-- its call -/
theorem pe_callG (F : FnG X.prog X.w X.K X.mg X.base k f fd ps sp) (hA : X.A.guards = some []) (hr : Room k X.A) (hg : Gl X x) (hm : X.mg x = some (.ref f)) (hk : PySem.W.keepIn X.K (.ref f) = true) (hb : Binds X.K fd ps [])
    (ha : PA X (e :: es) t) (hdb : (x == ("__debug__" : Str)) = false := by decide) (he : starEach (e :: es) X.env = (false, eval e X.env) :: starEach es X.env := by rfl) (hpl : (backTo pos (starEach es X.env)).any (·.1) = false := by rfl) :
    PE X (.Call (.Name x p) (e :: es) [] pos) (tCall sp [] E0 t) := by
  refine ⟨fun pins s σ H Q I h => ?_⟩
  refine wpAny_Call_Name_kw (ld_glob I hg hm ?_ hdb)
  refine PySem.W.callWith_K (h₀ := X.base) I.ok.mod.kin hk (thn (ha.run pos pins s σ H _ I h) fun us s1 hq => ?_) he hpl
  obtain ⟨vs, H1, I1, r, q⟩ := hq
  rw [List.append_nil] at q
  have hl : (us ++ []).length = ps.length := by rw [List.append_nil, ← r.length, F.len _ _ _ _ q]
  have bt := hb s1 us I1.kIn hl
  rw [List.append_nil] at bt
  refine ⟨I1.kIn, wpAny_call (codeAny_mono (F.go X.A hA hr X.stack s1 H1 ⟨us, []⟩ us vs Q E0 I1.env0 bt r q) fun res s' hres => ?_)⟩
  match res, hres with
  | .ok (.ret u), hres => exact I1.after hres
  | .ok .next, hres => exact False.elim hres
  | .ok .brk, hres => exact False.elim hres
  | .ok .cont, hres => exact False.elim hres
  | .error err, hres => exact False.elim hres
end
/-! ### repr of data -/
def rRepD (K : PySem.W.Frag) : List V → Hp → VK → Prop := fun xs H Q => ∃ (a : Addr) (d : PyData), xs = [.ref a] ∧ Dp K H (.ref a) d ∧ d.showable = true ∧ d.hasDict = false ∧ d.shown.length ≤ sizeLine ∧ d.depth ≤ 60 ∧ Q (.str d.shown) H
theorem call_repD {X : Cx} (hA : X.A.guards = some []) (hu : X.A.units + 64 < cLine) : CallR X (.builtin "repr") (rRepD X.K) := by
  intro pins s σ H xs us Q I r h
  obtain ⟨a, d, rfl, hd, h1, h2, h3, h4, q⟩ := h
  obtain ⟨u, rfl, r1⟩ := vals1 r
  cases r1
  obtain ⟨as, rd⟩ := Dp.reads I d (.ref a) (.ref a) hd rfl
  exact repr_of_reads' rd h1 (fun z => absurd (h2.symm.trans z) Bool.false_ne_true) hA (by omega) (fun b o e => e) (fun h' tk tk' kp => ⟨.str d.shown, H, I.kept (t' := tk') kp, ⟨tk, rfl⟩, q⟩) h3
end MU
namespace MU
open PySem L2 PySem.Spec PyProof.Rows
section
variable {P : Program} {w : World} {K : PySem.W.Frag} {mg mb : Str → Option Value} {k : Nat} {fa a : Addr} {fd : FuncData} {x : Str} {sp : Sp} {s₁ : Shared} {vs : List Value} {ns : List Int}
/-- the law's call, from an abstract heap in which at most the script is known -/
theorem law_from {H : Hp} (KX : K.In s₁.heap) (hns : s₁.heap.Ns mainGlobals mg) (hb : s₁.heap.Ns builtinsNs mb) (hbb : ∀ x : Str, x ≠ "__name__" → mb x = bootBuiltins x) (hlim : s₁.heap.NoLimit) (hg : s₁.gens = #[])
    (ha : s₁.heap.get? a = some { cls := .type "list", data := .seq vs.toArray }) (hr : Room k callerA)
    (F : ∀ base : Heap, K.In base → base.Ns mainGlobals mg → FnG P w K mg base k fa fd [x] sp) (hbind : ∀ (s : Shared) (u : Value), BindsTo s fd ⟨[u], []⟩ [(x, u)])
    (hO : Only H) (hok : HOk P w H s₁.heap) (hA : ∀ b u, H b = some u → b = a ∧ K.lookup a = none) (hsp : sp [.ref a] H (fun v _ => v = .bl true) fun _ _ _ => False) :
    codeAny (model P w) callerA (.call (.ref fa) ⟨[.ref a], []⟩) (fun r s' => r = .ok (.ret (.bool true)) ∧ OldK s₁.heap s'.heap ∧ s'.os = s₁.os ∧ AllBare s'.gens) s₁ := by
  -- nothing but the script's own object is hidden
  have plain : ∀ {b : Addr} {o : Obj}, s₁.heap.get? b = some o → (∀ es ep, o.data ≠ .dict es ep) ∨ H b = none := fun {b o} e => by
    cases q : H b with
    | none => exact .inr rfl
    | some u =>
      left
      intro es ep hd
      rw [(hA b u q).1, ha] at e
      rw [← Option.some.inj e] at hd
      cases hd
  have look : ∀ {b : Addr} {m : Str → Option Value}, s₁.heap.Ns b m → (hidT s₁.heap H).Ns b m := fun {b m} hn => by
    obtain ⟨o, es, ep, e, hd, r⟩ := hn
    exact ⟨o, es, ep, hidT_get e ((plain e).elim (fun z => absurd hd (z es ep)) id), hd, r⟩
  have inB : K.In (hidT s₁.heap H) := fun b o e => hidT_get (KX b o e) (by
    cases q : H b with
    | none => rfl
    | some u =>
      obtain ⟨rfl, z⟩ := hA b u q
      rw [z] at e
      cases e)
  have M : Mod K mg (hidT s₁.heap H) := ⟨inB, look hns, ⟨mb, look hb, hbb⟩, by obtain ⟨mc, h1, h2⟩ := hlim; exact ⟨mc, look h1, h2⟩⟩
  have e0 : Env0 P w K mg (hidT s₁.heap H) callerA [] s₁ H := ⟨rfl, M, fun b o e => of_hidT e, Nat.le_of_eq (hidT_size _ _), trivial, fun b z => absurd z List.not_mem_nil, hok, .of_eq hg⟩
  refine codeAny_mono ((F _ inB (look hns)).go callerA rfl hr [] s₁ H ⟨[.ref a], []⟩ [.ref a] [.ref a] _ _ e0 (hbind s₁ (.ref a)) (.cons rfl .nil) hsp) fun r s' h => ?_
  match r, h with
  | .error e, h => exact False.elim h
  | .ok .next, h => exact False.elim h
  | .ok .brk, h => exact False.elim h
  | .ok .cont, h => exact False.elim h
  | .ok (.ret u), h =>
    obtain ⟨v, H', os, bare, un, hok', r', q⟩ := h
    have q' : v = .bl true := q
    rw [q'] at r'
    refine ⟨by rw [show u = Value.bool true from r'], OldK.of_keep fun b o e => ?_, os, bare⟩
    cases hq : H b with
    | none => exact un.keep b o e hq List.not_mem_nil List.not_mem_nil
    | some u =>
      rcases hO b with z | ⟨ob, xs, z⟩
      · rw [hq] at z
        cases z
      · have h1 := (hok b _ z).1
        have h2 := (hok' b _ (un.frzs b ob _ z)).1
        rw [e] at h1
        rw [Option.some.inj h1]
        exact h2
theorem law_callG (KX : K.In s₁.heap) (hns : s₁.heap.Ns mainGlobals mg) (hb : s₁.heap.Ns builtinsNs mb) (hbb : ∀ x : Str, x ≠ "__name__" → mb x = bootBuiltins x) (hlim : s₁.heap.NoLimit) (hg : s₁.gens = #[])
    (ha : s₁.heap.get? a = some { cls := .type "list", data := .seq vs.toArray }) (hi : IntsAre vs ns) (hl : ns.length ≤ sizeLine) (hr : Room k callerA)
    (F : ∀ base : Heap, K.In base → base.Ns mainGlobals mg → FnG P w K mg base k fa fd [x] sp) (hbind : ∀ (s : Shared) (u : Value), BindsTo s fd ⟨[u], []⟩ [(x, u)])
    (hsp : ∀ H : Hp, Only H → SqL K H a (ns.map V.int) → sp [.ref a] H (fun v _ => v = .bl true) fun _ _ _ => False) :
    codeAny (model P w) callerA (.call (.ref fa) ⟨[.ref a], []⟩) (fun r s' => r = .ok (.ret (.bool true)) ∧ OldK s₁.heap s'.heap ∧ s'.os = s₁.os ∧ AllBare s'.gens) s₁ := by
  have rv := vals_ints hi
  cases hk : K.lookup a with
  | some o =>
    have e := KX a o hk
    rw [ha] at e
    cases e
    have O : Only fun _ => none := fun _ => .inl rfl
    have hz : vs.toArray.size ≤ sizeLine := by
      rw [List.size_toArray, hi.length]
      exact hl
    exact law_from (H := fun _ => none) KX hns hb hbb hlim hg ha hr F hbind O (fun b u z => nomatch z) (fun b u z => nomatch z) (hsp _ O (.inr ⟨_, vs.toArray, _, hk, rfl, rfl, rfl, hz, by simpa using rv⟩))
  | none =>
    have at_ : ∀ b u, (fun b => if b = a then some (HO.frz { cls := .type "list", data := .seq vs.toArray } (.lst (ns.map V.int))) else none) b = some u → b = a ∧ u = HO.frz { cls := .type "list", data := .seq vs.toArray } (.lst (ns.map V.int)) := fun b u z => by
      by_cases hb : b = a
      · rw [show (fun b => if b = a then some (HO.frz { cls := .type "list", data := .seq vs.toArray } (.lst (ns.map V.int))) else none) b = _ from if_pos hb] at z
        exact ⟨hb, (Option.some.inj z).symm⟩
      · rw [show (fun b => if b = a then some (HO.frz { cls := .type "list", data := .seq vs.toArray } (.lst (ns.map V.int))) else none) b = _ from if_neg hb] at z
        cases z
    have O : Only fun b => if b = a then some (HO.frz { cls := .type "list", data := .seq vs.toArray } (.lst (ns.map V.int))) else none := fun b => by
      by_cases hb : b = a
      · exact .inr ⟨_, _, if_pos hb⟩
      · exact .inl (if_neg hb)
    refine law_from KX hns hb hbb hlim hg ha hr F hbind O (fun b u z => ?_) (fun b u z => ⟨(at_ b u z).1, hk⟩) (hsp _ O (.inl (.inr ⟨_, if_pos rfl⟩)))
    obtain ⟨rfl, rfl⟩ := at_ b u z
    exact ⟨ha, by rw [List.length_map]; exact hl, vs, _, rv, ha⟩
end
/-- the goal that the head leaves, from the law's promise -/
theorem walkG {l : PySem.W.OpenLaw} {n k : Nat} {q : Program} {loose : List Str} {XP : (Str → Option Value) → Heap → Prop} {YP : World → Heap → Prop} {d : DefRec} {K : Params → PySem.W.Frag} {sp : World → Sp} {x : Str}
    (hn : l.most = some n) (hn2 : n ≤ sizeLine) (hdf : d.params.defaults = []) (hr : Room k callerA) (hY : ∀ (w : World) (h : Heap), YP w h → (K w.params).In h)
    (F : ∀ (w : World) (mg : Str → Option Value) (fa : Addr) (h : Heap), (K w.params).In h → h.Ns mainGlobals mg → mg d.name = some (.ref fa) →
      ∃ fd : FuncData, (∀ (s : Shared) (u : Value), BindsTo s fd ⟨[u], []⟩ [(x, u)]) ∧ ∀ base : Heap, (K w.params).In base → base.Ns mainGlobals mg → FnG l.prog w (K w.params) mg base k fa fd [x] (sp w))
    (hsp : ∀ (w : World) (H : Hp) (a : Addr) (ns : List Int), ns.length ≤ n → Only H → SqL (K w.params) H a (ns.map V.int) → sp w [.ref a] H (fun v _ => v = .bl true) fun _ _ _ => False) :
    PySem.W.WalkO q loose XP YP l.row.toRowW d [] (fun f vs => PySem.call f vs) := by
  refine Att.attach_call hn hdf fun w s₀ s₁ mg mb fa o pm cd doc a vs ns G Y ho hd hcd hmg hobj hints hlen hg => ?_
  obtain ⟨fd, hb, hF⟩ := F w mg fa _ (hY w _ Y) G.T.g hmg
  exact law_callG (hY w _ Y) G.T.g G.T.b G.T.builtins G.T.nolimit hg hobj hints (Nat.le_trans hlen hn2) hr hF hb fun H hO hS => hsp w H a ns hlen hO hS
end MU
/-! a list of lists of whole numbers, as data: its repr -/
namespace MU
open PySem L2
def dI (xs : List Int) : PyData := .list (xs.map PyData.int)
def dL (rs : List (Addr × List Int)) : PyData := .list (rs.map fun r => dI r.2)
theorem dp_rows {K : PySem.W.Frag} {H : Hp} : ∀ rs : List (Addr × List Int), LLs H rs → DpAll K H (rs.map rf) (rs.map fun r => dI r.2)
  | [], _ => .nil
  | r :: rs, h => .cons (dp_ints (h r List.mem_cons_self)) (dp_rows rs fun x hx => h x (List.mem_cons_of_mem _ hx))
theorem dp_list {K : PySem.W.Frag} {H : Hp} {a : Addr} {rs : List (Addr × List Int)} (h : H a = some (.lst (rs.map rf))) (hl : LLs H rs) : Dp K H (.ref a) (dL rs) := .lst (SqL.of h) (dp_rows rs hl)
theorem tame_log {n : Int} (h : n.natAbs < 2 ^ 70) : n.natAbs.log2 < 70 := PySem.Flt.log2_lt_of (by decide) h
theorem show_ints : ∀ {xs : List Int}, Tame xs → PyData.showableAll (xs.map PyData.int) = true
  | [], _ => rfl
  | x :: r, h => by
    show (decide (x.natAbs.log2 < 1920) && PyData.showableAll (r.map PyData.int)) = true
    rw [show_ints fun z hz => h z (List.mem_cons_of_mem _ hz), decide_eq_true (Nat.lt_trans (tame_log (h x List.mem_cons_self)) (by decide))]
    rfl
theorem show_rows : ∀ {rs : List (Addr × List Int)}, (∀ r ∈ rs, Tame r.2) → PyData.showableAll (rs.map fun r => dI r.2) = true
  | [], _ => rfl
  | x :: r, h => by
    show (PyData.showableAll (x.2.map PyData.int) && PyData.showableAll (r.map fun r => dI r.2)) = true
    rw [show_rows fun z hz => h z (List.mem_cons_of_mem _ hz), show_ints (h x List.mem_cons_self)]
    rfl
theorem dict_ints : ∀ xs : List Int, PyData.hasDictAll (xs.map PyData.int) = false
  | [] => rfl
  | x :: r => by
    show (false || PyData.hasDictAll (r.map PyData.int)) = false
    rw [dict_ints r]; rfl
theorem dict_rows : ∀ rs : List (Addr × List Int), PyData.hasDictAll (rs.map fun r => dI r.2) = false
  | [] => rfl
  | x :: r => by
    show (PyData.hasDictAll (x.2.map PyData.int) || PyData.hasDictAll (r.map fun r => dI r.2)) = false
    rw [dict_rows r, dict_ints]; rfl
theorem depth_rows : ∀ rs : List (Addr × List Int), PyData.depthAll (rs.map fun r => dI r.2) ≤ 1
  | [] => Nat.zero_le _
  | x :: r => by
    show max (PyData.depthAll (x.2.map PyData.int) + 1) (PyData.depthAll (r.map fun r => dI r.2)) ≤ 1
    rw [depth_ints]
    have := depth_rows r
    omega
theorem text_len : ∀ ts : List Str, (listText ts).length ≤ piled ts + 2
  | [] => by decide +kernel
  | t :: r => by
    have h := textFrom_length_pos r 1 (("[" : Str) ++ (if (0 : Nat) > 0 then ", " else "" : String) ++ t) (Nat.succ_pos 0)
    have e : ((("[" : Str) ++ (if (0 : Nat) > 0 then ", " else "" : String) ++ t)).length = 1 + t.length := by
      rw [strLen_append, strLen_append]
      rfl
    have e2 : (listText (t :: r)).length = (textFrom 1 (("[" : Str) ++ (if (0 : Nat) > 0 then ", " else "" : String) ++ t) r).length + 1 := by
      show (textFrom 0 "[" (t :: r) ++ "]").length = _
      rw [strLen_append]
      rfl
    rw [e2, h, e, piled_cons]
    omega
theorem piled_le {m : Nat} : ∀ {ts : List Str}, (∀ t ∈ ts, t.length ≤ m) → piled ts ≤ ts.length * (m + 2)
  | [], _ => Nat.zero_le _
  | t :: r, h => by
    have h1 := piled_le (ts := r) (m := m) fun z hz => h z (List.mem_cons_of_mem _ hz)
    have h2 := h t List.mem_cons_self
    rw [piled_cons, List.length_cons, Nat.succ_mul]
    omega
theorem shownAll_map {α : Type} (g : α → PyData) : ∀ l : List α, PyData.shownAll (l.map g) = l.map fun x => (g x).shown
  | [] => rfl
  | x :: r => by
    show (g x).shown :: PyData.shownAll (r.map g) = _
    rw [shownAll_map g r]
    rfl
theorem len_ints {xs : List Int} (h : Tame xs) (hl : xs.length ≤ 1000) : (dI xs).shown.length ≤ 73002 := by
  have h1 := text_len (PyData.shownAll (xs.map PyData.int))
  have h2 : piled (PyData.shownAll (xs.map PyData.int)) ≤ 1000 * 73 := by
    rw [shownAll_map]
    refine Nat.le_trans (piled_le (m := 71) fun t ht => ?_) (by rw [List.length_map]; exact Nat.mul_le_mul_right _ hl)
    obtain ⟨x, hx, rfl⟩ := List.mem_map.mp ht
    show (Str.ofString (toString x)).length ≤ 71
    rw [ofString_length]
    exact int_text_length_le (k := 70) (by decide) (tame_log (h x hx))
  show (listText (PyData.shownAll (xs.map PyData.int))).length ≤ 73002
  omega
theorem len_rows {rs : List (Addr × List Int)} (h : ∀ r ∈ rs, Tame r.2) (hl : ∀ r ∈ rs, r.2.length ≤ 1000) (hn : rs.length ≤ 100) : (dL rs).shown.length ≤ sizeLine := by
  have h1 := text_len (PyData.shownAll (rs.map fun r => dI r.2))
  have h2 : piled (PyData.shownAll (rs.map fun r => dI r.2)) ≤ 100 * 73004 := by
    rw [shownAll_map]
    refine Nat.le_trans (piled_le (m := 73002) fun t ht => ?_) (by rw [List.length_map]; exact Nat.mul_le_mul_right _ hn)
    obtain ⟨x, hx, rfl⟩ := List.mem_map.mp ht
    exact len_ints (h x hx) (hl x hx)
  show (listText (PyData.shownAll (rs.map fun r => dI r.2))).length ≤ sizeLine
  rw [sizeLine_eq]
  omega
/-- repr(xs) of a list of lists: its reading -/
theorem repr_rd {K : PySem.W.Frag} {H : Hp} {a : Addr} {rs : List (Addr × List Int)} {Q : VK} (hA : H a = some (.lst (rs.map rf))) (hL : LLs H rs) (ht : ∀ r ∈ rs, Tame r.2) (hl : ∀ r ∈ rs, r.2.length ≤ 1000) (hn : rs.length ≤ 100) (q : Q (.str (dL rs).shown) H) :
    rRepD K [.ref a] H Q := by
  refine ⟨a, dL rs, rfl, dp_list hA hL, show_rows ht, dict_rows rs, len_rows ht hl hn, ?_, q⟩
  show PyData.depthAll (rs.map fun r => dI r.2) + 1 ≤ 60
  have := depth_rows rs
  omega
theorem repr_te {K : PySem.W.Frag} {σ : St} {H : Hp} {a : Addr} {i : Nat} {rs : List (Addr × List Int)} {Q : VK} (hi : σ[i]? = some (some (.ref a))) (hA : H a = some (.lst (rs.map rf))) (hL : LLs H rs) (ht : ∀ r ∈ rs, Tame r.2) (hl : ∀ r ∈ rs, r.2.length ≤ 1000) (hn : rs.length ≤ 100)
    (q : Q (.str (dL rs).shown) H) : tCB (rRepD K) (tCons (tVar i) tNil) σ H Q := ⟨_, hi, repr_rd hA hL ht hl hn q⟩
end MU
namespace MU
open PySem L2
/-- a drawn list: apart from D, its numbers at its address, of at most m items, tame -/
def okR (D : Addr) (L : Nat) (H' : Hp) (r : Addr × List Int) : Prop := r.1 ≠ D ∧ H' r.1 = some (LI r.2) ∧ r.2.length ≤ L ∧ Tame r.2
section
variable {P : Program} {w : World} {K : PySem.W.Frag} {mg : Str → Option Value} {base : Heap} {f gD gM gA C fI : Addr} {fd dD dM dA : FuncData}
def spTwelve : Sp := fun vs H Q _ => ∃ (d : Addr) (m : Nat), vs = [.ref d] ∧ m ≤ 500000 ∧ Dr H d m ∧ ∀ H', SameX d H H' → Dr H' d (m + 400) → Q (.bl true) H'
abbrev nTw : List Str := ["_law_draws_here", "_law_one", "_law_some", "_law_kept_here", "_law_due", "_law_other", "_law_k"]
theorem scTw : FnScope nTw ["_law_draws_here"] (defScope sTwelve) := ⟨rfl, rfl, rfl, by decide +kernel, rfl, by decide +kernel, by decide +kernel⟩
theorem ok_twelve (F : Fun K "_law_twelve_right" "_law_twelve_right" sTwelve f fd) (T : Gs mg)
    (GD : FnOk P w K mg base CX0 2 gD dD ["_law_draws_here", "_law_most"] spDrawn) (bD : Binds K dD ["_law_draws_here", "_law_most"] []) (kD : PySem.W.keepIn K (.ref gD) = true) (mD : mg "_law_drawn" = some (.ref gD))
    (GM : FnOk P w K mg base CX0 1 gM dM ["_law_one", "_law_other"] spMgd) (bM : Binds K dM ["_law_one", "_law_other"] []) (kM : PySem.W.keepIn K (.ref gM) = true) (mM : mg "_law_merged" = some (.ref gM))
    (GA : FnOk P w K mg base (L2.CX P w) 4 gA dA ["lists"] (spMgA C)) (bA : Binds K dA ["lists"] []) (kA : PySem.W.keepIn K (.ref gA) = true) (mA : mg "merge_all" = some (.ref gA)) :
    FnG P w K mg base 5 f fd ["_law_draws_here"] spTwelve := by
  refine okG F scTw (fun vs H Q E h => ?_) (fun cdv A outer s H vs Q E hr hg h => ?_)
  · obtain ⟨d, m, rfl, _⟩ := h
    rfl
  obtain ⟨d, m, rfl, hm, hd, q⟩ := h
  refine ⟨_, pss_cons (ps_set (i := 1) scTw.nd rfl (.inl rfl) (pe_call GD (hr.mono (by decide)) rfl mD kD bD .nil pass0 (pa_cons (pv 0) (pa_cons pe_int pa_nil))))
    (pss_cons (ps_set (i := 2) scTw.nd rfl (.inl rfl) (pe_op op_cat
      (pe_lc (own := [("_law_k", 6)]) (g := gName 6) (tt := tYes) rfl scTw.nd (pi_range1 (by rfl) T.range (pa_cons pe_int pa_nil)) (blkOk_by (N := nTw) (sc := defScope sTwelve) (by decide +kernel))
        (fun _ _ _ _ _ => pg_name (i := 6) scTw.nd rfl (.inl rfl)) (fun _ _ _ _ _ => pts_nil) (fun _ _ _ _ _ => pe_call GD (hr.mono (by decide)) rfl mD kD bD .nil pass0 (pa_cons (pv 0) (pa_cons pe_int pa_nil))))
      (pe_lst (pa_cons (pv 1) (pa_cons (pv 1) (pa_cons (pv 1) pa_nil))))))
    (pss_cons (ps_set (i := 3) scTw.nd rfl (.inl rfl) (pe_callB (call_repD hg hr.units) (by rfl) T.repr (by decide +kernel) (pa_cons (pv 2) pa_nil)))
    (pss_cons (ps_set (i := 4) scTw.nd rfl (.inl rfl) (pe_lst pa_nil))
    (pss_cons (ps_for PassesOwn.never rfl (pi_list (pv 2)) (pg_name (i := 5) scTw.nd rfl (.inl rfl))
      (pss_one (ps_set (i := 4) scTw.nd rfl (.inl rfl) (pe_call GM (hr.mono (by decide)) rfl mM kM bM .nil pass0 (pa_cons (pv 4) (pa_cons (pe_callTy call_list_of (by rfl) T.list (by decide +kernel) (pa_cons (pv 5) pa_nil)) pa_nil))))))
    (pss_one (ps_ret (pe_and (pe_cmpR (op_eqD hr.units) (pe_call GA hr rfl mA kA bA .nil passL (pa_cons (pv 2) pa_nil)) (pv 4) (nomark _))
      (pe_one (pe_cmpR op_eq (pe_callB (call_repD hg hr.units) (by rfl) T.repr (by decide +kernel) (pa_cons (pv 2) pa_nil)) (pv 3) (nomark _)))))))))), ?_⟩
  refine ⟨_, rfl, d, m, 20, rfl, by decide, by omega, hd, fun p1 ns1 H1 S1 hd1 hp1 e1 hl1 ht1 => ?_⟩
  refine ⟨9, rfl, by decide, by decide, fun D hD => ?_⟩
  have Dd : D ≠ d := hd1.ne hD
  refine lc_range (lo := 0) (n := (9 : Int).toNat) (fun j H' => SameX d H1 H' ∧ Dr H' d (m + 40 + 40 * j) ∧ ∃ rs : List (Addr × List Int), H' D = some (.lst (rs.map rf)) ∧ rs.length = j ∧ ∀ r ∈ rs, okR D 30 H' r) ?_ (fun j H' hj p => ?_) (fun H2 p => ?_)
  · exact ⟨sx (same_new hD _), dr_upd hd1 Dd, [], upd_same, rfl, fun r hr => absurd hr List.not_mem_nil⟩
  · obtain ⟨S, hdr, rs, hrs, hlen, hok⟩ := p
    have hj9 : j < 9 := hj
    refine ⟨wipe1, ?_⟩
    refine yes_of ?_
    refine ⟨_, rfl, d, m + 40 + 40 * j, 30, rfl, by decide, by omega, hdr, fun p ns H3 S3 hd3 hp e hl ht => ?_⟩
    have pD : p ≠ D := ne_of_none' hrs hp
    refine ⟨_, S3 D _ Dd hrs, by rw [List.length_map, hlen]; exact smallT (by omega), fun b o hb' e' => ?_, dr_upd (hd3.mono (by omega)) Dd, rs ++ [(p, ns)], ?_, ?_, fun r hr' => ?_⟩
    · rw [upd_ne (ne_of_none e' hD)]
      exact S3 b o hb' (S b o hb' e')
    · rw [upd_same, List.map_append]
      rfl
    · rw [List.length_append, hlen]
      rfl
    · rcases List.mem_append.mp hr' with h1 | h1
      · obtain ⟨n1, n2, n3⟩ := hok r h1
        exact ⟨n1, by rw [upd_ne n1]; exact S3 _ _ (hdr.neO n2 fun _ _ _ => LI_ne) n2, n3⟩
      · rw [List.mem_singleton.mp h1]
        exact ⟨pD, by rw [upd_ne pD]; exact e, hl, ht⟩
  · obtain ⟨S2, hd2, rs, hrs, hlen, hok⟩ := p
    have hlen9 : rs.length = 9 := hlen
    have e12 : H2 p1 = some (LI ns1) := S2 _ _ (hd1.neO e1 fun _ _ _ => LI_ne) e1
    refine ⟨_, rfl, _, rfl, _, rfl, small (by decide : 3 ≤ 1000000), fun p3 hp3 => ?_⟩
    have S3 := same_new hp3 (.lst [.ref p1, .ref p1, .ref p1])
    refine ⟨D, p3, _, _, rfl, rfl, S3 _ _ hrs, upd_same, small (by rw [List.length_map, hlen9]; show 9 + 3 ≤ 1000000; decide), fun p4 hp4 => ?_⟩
    obtain ⟨all, hall⟩ : ∃ all, all = rs ++ [(p1, ns1), (p1, ns1), (p1, ns1)] := ⟨_, rfl⟩
    have emap : rs.map rf ++ [.ref p1, .ref p1, .ref p1] = all.map rf := by rw [hall, List.map_append]; rfl
    rw [emap]
    have S4 := S3.trans (same_new hp4 (.lst (all.map rf)))
    have hA4 : (upd (upd H2 p3 (.lst [.ref p1, .ref p1, .ref p1])) p4 (.lst (all.map rf))) p4 = some (.lst (all.map rf)) := upd_same
    generalize hH4 : upd (upd H2 p3 (.lst [.ref p1, .ref p1, .ref p1])) p4 (.lst (all.map rf)) = H4 at S4 hA4 ⊢
    have each : ∀ r ∈ all, H4 r.1 = some (LI r.2) ∧ r.2.length ≤ 30 ∧ Tame r.2 := fun r hr' => by
      rw [hall] at hr'
      rcases List.mem_append.mp hr' with h1 | h1
      · obtain ⟨_, n2, n3⟩ := hok r h1
        exact ⟨S4 _ _ n2, n3⟩
      · have : r = (p1, ns1) := by simpa using h1
        rw [this]
        exact ⟨S4 _ _ e12, by show ns1.length ≤ 30; omega, ht1⟩
    have hL4 : LLs H4 all := fun r hr' => (each r hr').1
    have len12 : all.length ≤ 100 := by rw [hall, List.length_append, hlen9]; show 9 + 3 ≤ 100; decide
    have len30 : ∀ r ∈ all, r.2.length ≤ 1000 := fun r hr' => Nat.le_trans (each r hr').2.1 (by decide)
    have tame : ∀ r ∈ all, Tame r.2 := fun r hr' => (each r hr').2.2
    have S04 : SameX d H H4 := S1.trans (S2.trans (sx S4))
    have hd4 : Dr H4 d (m + 400) := (hd2.same S4).mono (by show m + 40 + 40 * 9 ≤ m + 400; omega)
    refine repr_te (i := 2) rfl hA4 hL4 tame len30 len12 ?_
    refine ⟨(by show 0 ≤ sizeLine; decide), fun t ht => ?_⟩
    have S5 := same_new ht (.lst [])
    refine ⟨_, rfl, p4, rfl, ⟨_, SqL.of (S5 _ _ hA4)⟩, ?_⟩
    refine for_list (xs := all.map rf) (fun i σ H' => ∃ (t : Addr) (o5 : Option V), σ = [some (.ref d), some (.ref p1), some (.ref p4), some (.str (dL all).shown), some (.ref t), o5, none] ∧ Same H4 H' ∧ H' t = some (LI (foldM ((all.take i).map (·.2))))) ?_ (fun i σ H' _ p => ?_) (fun i x σ H5 hx p => ?_) (fun σ H5 p => ?_)
    · exact ⟨t, none, rfl, S5, by rw [upd_same]; rfl⟩
    · obtain ⟨t, o5, _, S, _⟩ := p
      exact SqL.of (S _ _ hA4)
    · obtain ⟨t, o5, rfl, S, hT⟩ := p
      obtain ⟨r, hr1, rfl⟩ := map_get hx
      have hm' : r ∈ all := List.mem_of_getElem? hr1
      refine ⟨_, rfl, _, rfl, r.1, _, rfl, .inl (SqL.of (S _ _ (hL4 r hm'))), fun l hl => ?_⟩
      have S6 := same_new hl (LI r.2)
      refine ⟨t, l, _, r.2, rfl, S6 _ _ hT, upd_same, ?_, fun p H' S' hp e => ?_⟩
      · have z1 := fold_small len12 len30 i
        have z2 := len30 r hm'
        omega
      · exact ⟨p, _, rfl, S.trans (S6.trans S'), by rw [e, fold_step hr1]⟩
    · obtain ⟨t, o5, rfl, S, hT⟩ := p
      rw [List.length_map, List.take_length] at hT
      refine ⟨_, rfl, .ref p4, rfl, .inr ⟨p4, all, rfl, S _ _ hA4, hL4.same S, len12, len30, fun p H6 S6 hp e => ?_⟩⟩
      refine ⟨_, rfl, _, _, dp_ints e, dp_ints (S6 _ _ hT), shaped_ints _, shaped_ints _, true, congrArg V.bl (by rw [eqv_lists]; exact decide_eq_true rfl), iteT ?_⟩
      have S46 := S.trans S6
      refine repr_te (i := 2) rfl (S46 _ _ hA4) (hL4.same S46) tame len30 len12 ⟨_, rfl, rfl, ?_⟩
      rw [decide_eq_true rfl]
      exact q H6 (S04.trans (sx S46)) (hd4.same S46)
end
end MU
namespace MU
open PySem L2
section
variable {X : Cx} {CX : CXT} {k : Nat} {f : Addr} {fd : FuncData} {ps ks : List Str} {sp : Sp} {E : XK} {x : Str} {p pos : Pos} {kws : List Keyword} {tk : TA} {g : List Value → List Value → List Value} {gV : List V → List V → List V}
/-- f(k = v, ..), by keywords alone -/
theorem pe_callK0 (F : FnOk X.prog X.w X.K X.mg X.base CX k f fd ps sp) (hr : Room k X.A) (hg : Gl X x) (hm : X.mg x = some (.ref f)) (hk : PySem.W.keepIn X.K (.ref f) = true) (hb : KBinds X.K fd ps ks g gV) (hx : Passes CX X E)
    (hkw : PK X kws tk) (hall : (backToKw pos (keywordEach kws X.env)).all (·.1.isSome) = true := by rfl) (hks : (backToKw pos (keywordEach kws X.env)).filterMap (·.1) = ks := by rfl) (hdb : (x == ("__debug__" : Str)) = false := by decide)
    (hpl : ((backTo pos (starEach [] X.env)).any (·.1) || (backToKw pos (keywordEach kws X.env)).any (·.1.isNone)) = false := by rfl) : PE X (.Call (.Name x p) [] kws pos) (fun σ H Q => tk σ H fun zs H2 => sp (gV [] zs) H2 Q E) := by
  refine ⟨fun pins s σ H Q I h => wpAny_Call_Name_kw (ld_glob I hg hm ?_ hdb)⟩
  refine PySem.W.callWith_KW0 (h₀ := X.base) I.ok.mod.kin hk hall (thn (hkw.run pos pins s σ H _ I h) fun ws s2 hw => ?_) hpl
  obtain ⟨zs, H2, I2, rz, q2⟩ := hw
  rw [hks]
  exact ⟨I2.kIn, run_fnk (us := []) F hr hb hx I2 .nil rz q2⟩
end
section
variable {P : Program} {w : World} {K : PySem.W.Frag} {mg : Str → Option Value} {base : Heap} {f gN gD gR gM gA gT gK g12 C fI : Addr} {fd dN dD dR dM dA dT dK d12 : FuncData}
theorem kb_mga (F : Fun K "merge_all" "merge_all" sMgA f fd) : KBinds K fd ["lists"] ["lists"] (· ++ ·) (· ++ ·) := by
  obtain ⟨oc, od, kV, doc, pm, an, cdv, ct, osl, rfl, lk, hcd⟩ := F.ex
  refine ⟨fun s us ws _ hl => ?_, fun r r' => r.append r'⟩
  match us, ws, hl with
  | [u], [], _ => exact .of_eq rfl
  | [], [v], _ => exact .of_eq rfl
  | [], [], hl => cases hl
  | [], _ :: _ :: _, hl => cases hl
  | [_], _ :: _, hl => cases hl
  | _ :: _ :: _, _, hl => cases hl
def spRight : Sp := fun vs H Q _ => ∃ (d : Addr) (m : Nat), vs = [.ref d] ∧ m ≤ 100000 ∧ Dr H d m ∧ ∀ H', SameX d H H' → Dr H' d (m + 1000) → Q (.bl true) H'
theorem pre_at {pre : List (Addr × List Int)} {bad : V} {rest : List V} : (pre.map rf ++ bad :: rest)[pre.length]? = some bad := by
  rw [List.getElem?_append_right (by rw [List.length_map]; exact Nat.le_refl _), List.length_map, Nat.sub_self]
  rfl
theorem pre_lt {pre : List (Addr × List Int)} {bad x : V} {rest : List V} {j : Nat} (hj : j < pre.length) (h : (pre.map rf ++ bad :: rest)[j]? = some x) : ∃ r ∈ pre, x = rf r := by
  rw [List.getElem?_append_left (by rw [List.length_map]; exact hj)] at h
  obtain ⟨r, h1, h2⟩ := map_get h
  exact ⟨r, List.mem_of_getElem? h1, h2⟩
/-- kept, of a list with some good lists ahead of a bad thing -/
theorem kept_pre {H : Hp} {a : Addr} {pre : List (Addr × List Int)} {bad : V} {rest : List V} {Q : VK} (hA : H a = some (.lst (pre.map rf ++ bad :: rest))) (hL : LLs H pre) (hl : ∀ r ∈ pre, r.2.length ≤ 1000) (hb : BadI H bad) (hn : pre.length ≤ 1000)
    (q : ∀ H', Same H H' → Q (.str (toString (pre.length : Int))) H') : spKept [.ref a] H Q E0 :=
  ⟨_, rfl, .inr ⟨a, _, pre.length, bad, rfl, hA, pre_at, hb, fun j hj x hx => by
    obtain ⟨r, hr, rfl⟩ := pre_lt hj hx
    exact flat_ints (hL r hr) (Nat.le_trans (hl r hr) (by decide)), by omega, q⟩⟩
theorem kept_pf {H : Hp} {pre : List (Addr × List Int)} {bad : V} {rest : List V} (hL : LLs H pre) (hl : ∀ r ∈ pre, r.2.length ≤ 1000) : ∀ j, j < pre.length → ∀ x, (pre.map rf ++ bad :: rest)[j]? = some x → FlatL H x true := fun j hj x hx => by
  obtain ⟨r, hr, rfl⟩ := pre_lt hj hx
  exact flat_ints (hL r hr) (Nat.le_trans (hl r hr) (by decide))
theorem BadI.x {d : Addr} {H H' : Hp} {v : V} (h : BadI H v) (hd : v ≠ .ref d) (S : SameX d H H') : BadI H' v := by
  rcases h with h | ⟨p, us, rfl, hp, r⟩
  · refine .inl ?_
    cases h with
    | non => exact .non
    | int i => exact .int i
    | str x => exact .str x
    | tup h => exact .tup (S _ _ (fun e => hd (by rw [e])) h)
    | dk h => exact .dk (S _ _ (fun e => hd (by rw [e])) h)
  · exact .inr ⟨p, us, rfl, S _ _ (fun e => hd (by rw [e])) hp, r⟩
/-- where the law stands behind its first loop: all but d as it was, the lists at A, what is due at t -/
structure Sit (d A t : Addr) (rs : List (Addr × List Int)) (m : Nat) (H0 H : Hp) : Prop where
  S : SameX d H0 H
  dr : Dr H d m
  at_ : H A = some (.lst (rs.map rf))
  ls : LLs H rs
  due : H t = some (LI (foldM (rs.map (·.2))))
theorem Sit.same {d A t : Addr} {rs : List (Addr × List Int)} {m : Nat} {H0 H H' : Hp} (x : Sit d A t rs m H0 H) (S : Same H H') : Sit d A t rs m H0 H' := ⟨x.S.trans (sx S), x.dr.same S, S _ _ x.at_, x.ls.same S, S _ _ x.due⟩
theorem Sit.x {d A t : Addr} {rs : List (Addr × List Int)} {m m' : Nat} {H0 H H' : Hp} (x : Sit d A t rs m H0 H) (S : SameX d H H') (hd : Dr H' d m') : Sit d A t rs m' H0 H' :=
  ⟨x.S.trans S, hd, S _ _ (x.dr.neO x.at_ fun _ _ _ => refs_ne) x.at_, x.ls.x x.dr S, S _ _ (x.dr.neO x.due fun _ _ _ => LI_ne) x.due⟩
theorem Sit.mono {d A t : Addr} {rs : List (Addr × List Int)} {m m' : Nat} {H0 H : Hp} (x : Sit d A t rs m H0 H) (h : m ≤ m') : Sit d A t rs m' H0 H := ⟨x.S, x.dr.mono h, x.at_, x.ls, x.due⟩
theorem canLay_rows : ∀ rs : List (Addr × List Int), PyData.canLayAll0 (rs.map fun r => dI r.2) = true
  | [] => rfl
  | x :: r => by
    show (PyData.canLayAll0 (x.2.map PyData.int) && PyData.canLayAll0 (r.map fun r => dI r.2)) = true
    rw [canLay_rows r, canLay_ints]
    rfl
theorem shaped_rows (rs : List (Addr × List Int)) : SeqAt.shaped (dL rs) = true := by
  unfold SeqAt.shaped
  have h1 : PyData.canLay0 (dL rs) = true := canLay_rows rs
  have h2 : PyData.depth (dL rs) ≤ 64 := by
    show PyData.depthAll (rs.map fun r => dI r.2) + 1 ≤ 64
    have := depth_rows rs
    omega
  rw [h1, decide_eq_true h2]
  rfl
/-- xs != [] and by_tree(..) != due: it is not so -/
theorem cond_tree {σ : St} {d A t : Addr} {rs : List (Addr × List Int)} {m : Nat} {H0 H : Hp} {Qb : Bool → Hp → Prop} (x : Sit d A t rs m H0 H) (h0 : σ[0]? = some (some (.ref d))) (h1 : σ[1]? = some (some (.ref A))) (h5 : σ[5]? = some (some (.ref t)))
    (hn : rs.length ≤ 6) (hl : ∀ r ∈ rs, r.2.length ≤ 1000) (hm : m ≤ 800000) (q : ∀ H', SameX d H H' → Sit d A t rs (m + 6) H0 H' → Qb false H') :
    tAnd (tTest (tOp (rNeD K) (tVar 1) (tLst tNil))) (tTest (tOp (rNeD K) (tCall (spTree 6) [] E0 (tCons (tVar 0) (tCons (tVar 1) tNil))) (tVar 5))) σ H Qb := by
  refine ⟨_, h1, (by show 0 ≤ sizeLine; decide), fun p hp => ?_⟩
  have S1 := same_new hp (.lst [])
  have x1 := x.same S1
  refine ⟨dL rs, .list [], dp_list x1.at_ x1.ls, .lst (SqL.of upd_same) .nil, shaped_rows rs, shaped_ints [], _, rfl, ?_⟩
  cases hrs : rs with
  | nil =>
    exact iteF (q _ (sx S1) (x1.mono (by omega)))
  | cons r0 rs0 =>
    refine iteT ?_
    have h1' : 1 ≤ rs.length := by rw [hrs, List.length_cons]; omega
    refine ⟨_, h0, _, h1, d, A, rs, m, rfl, x1.at_, x1.ls, ⟨h1', hn, by omega⟩, hl, by omega, x1.dr, fun r H' S' hd' e => ?_⟩
    have x2 := x1.x S' hd'
    refine ⟨_, h5, _, _, dp_ints e, dp_ints x2.due, shaped_ints _, shaped_ints _, false, congrArg V.bl (by rw [eqv_lists, decide_eq_true rfl]; rfl), ?_⟩
    exact q H' ((sx S1).trans S') (x2.mono (by omega))
abbrev nRt : List Str := ["_law_draws_here", "_law_some", "_law_one", "_law_before", "_law_told", "_law_due", "_law_bad", "_law_at", "_law_k"]
theorem scRt : FnScope nRt ["_law_draws_here"] (defScope sRight) := ⟨rfl, rfl, rfl, by decide +kernel, rfl, by decide +kernel, by decide +kernel⟩
end
end MU
namespace MU
open PySem L2
section
variable {P : Program} {w : World} {K : PySem.W.Frag} {mg : Str → Option Value} {base : Heap} {f gN gD gR gM gA gT gK g12 C fI : Addr} {fd dN dD dR dM dA dT dK d12 : FuncData}
theorem ok_right (F : Fun K "_law_right" "_law_right" sRight f fd) (T : Gs mg)
    (GN : FnOk P w K mg base CX0 1 gN dN ["_law_draws_here"] spNext) (bN : Binds K dN ["_law_draws_here"] []) (kN : PySem.W.keepIn K (.ref gN) = true) (mN : mg "_law_next" = some (.ref gN))
    (GD : FnOk P w K mg base CX0 2 gD dD ["_law_draws_here", "_law_most"] spDrawn) (bD : Binds K dD ["_law_draws_here", "_law_most"] []) (kD : PySem.W.keepIn K (.ref gD) = true) (mD : mg "_law_drawn" = some (.ref gD))
    (GR : FnOk P w K mg base CX0 2 gR dR ["_law_draws_here", "_law_most"] spRow) (bR : Binds K dR ["_law_draws_here", "_law_most"] []) (kR : PySem.W.keepIn K (.ref gR) = true) (mR : mg "_law_row" = some (.ref gR))
    (GM : FnOk P w K mg base CX0 1 gM dM ["_law_one", "_law_other"] spMgd) (bM : Binds K dM ["_law_one", "_law_other"] []) (kM : PySem.W.keepIn K (.ref gM) = true) (mM : mg "_law_merged" = some (.ref gM))
    (GA : FnOk P w K mg base (L2.CX P w) 4 gA dA ["lists"] (spMgA C)) (bA : Binds K dA ["lists"] []) (kbA : KBinds K dA ["lists"] ["lists"] (· ++ ·) (· ++ ·)) (kA : PySem.W.keepIn K (.ref gA) = true) (mA : mg "merge_all" = some (.ref gA))
    (GT : FnOk P w K mg base CX0 9 gT dT ["_law_draws_here", "_law_some"] (spTree 6)) (bT : Binds K dT ["_law_draws_here", "_law_some"] []) (kT : PySem.W.keepIn K (.ref gT) = true) (mT : mg "_law_by_tree" = some (.ref gT))
    (GK : FnOk P w K mg base CX0 5 gK dK ["_law_thing"] spKept) (bK : Binds K dK ["_law_thing"] []) (kK : PySem.W.keepIn K (.ref gK) = true) (mK : mg "_law_kept" = some (.ref gK))
    (G12 : FnG P w K mg base 5 g12 d12 ["_law_draws_here"] spTwelve) (b12 : Binds K d12 ["_law_draws_here"] []) (k12 : PySem.W.keepIn K (.ref g12) = true) (m12 : mg "_law_twelve_right" = some (.ref g12)) :
    FnG P w K mg base 10 f fd ["_law_draws_here"] spRight := by
  refine okG F scRt (fun vs H Q E h => ?_) (fun cdv A outer s H vs Q E hr hg h => ?_)
  · obtain ⟨d, m, rfl, _⟩ := h
    rfl
  obtain ⟨d, m, rfl, hm, hd, q⟩ := h
  refine ⟨_, pss_cons (ps_setLc (i := 1) (own := [("_law_k", 8)]) (g := gName 8) (tt := tYes) (by rfl) scRt.nd rfl rfl (sw_true rfl rfl rfl (by decide +kernel))
      (pi_range1 (by rfl) T.range (pa_cons (pe_op op_mod (pe_callTy call_int1 (by rfl) T.int (by decide +kernel) (pa_cons (pe_call GN (hr.mono (by decide)) rfl mN kN bN .nil pass0 (pa_cons (pv 0) pa_nil)) pa_nil)) pe_int) pa_nil))
      (blkOk_by (N := nRt) (sc := defScope sRight) (by decide +kernel)) (fun _ _ _ _ _ => pg_name (i := 8) scRt.nd rfl (.inl rfl)) (fun _ _ _ _ _ => pts_nil)
      (fun _ _ _ _ _ => pe_call GD (hr.mono (by decide)) rfl mD kD bD .nil pass0 (pa_cons (pv 0) (pa_cons pe_int pa_nil))))
    (pss_cons (ps_setLc (i := 1) (own := [("_law_one", 2)]) (g := gName 2) (tt := tYes) (by rfl) scRt.nd rfl rfl (sw_true rfl rfl rfl (by decide +kernel)) (pi_list (pv 1))
      (blkOk_by (N := nRt) (sc := defScope sRight) (by decide +kernel)) (fun _ _ _ _ _ => pg_name (i := 2) scRt.nd rfl (.inl rfl)) (fun _ _ _ _ _ => pts_nil)
      (fun _ _ _ _ _ => pe_ifExp (pt_cmpR op_eq (pe_op op_mod (pe_callTy call_int1 (by rfl) T.int (by decide +kernel) (pa_cons (pe_call GN (hr.mono (by decide)) rfl mN kN bN .nil pass0 (pa_cons (pv 0) pa_nil)) pa_nil)) pe_int) pe_int (nomark _))
        (pe_call GR (hr.mono (by decide)) rfl mR kR bR .nil pass0 (pa_cons (pv 0) (pa_cons pe_int pa_nil))) (pv 2)))
    (pss_cons (ps_set (i := 3) scRt.nd rfl (.inl rfl) (pe_callB (call_repD hg hr.units) (by rfl) T.repr (by decide +kernel) (pa_cons (pv 1) pa_nil)))
    (pss_cons (ps_set (i := 4) scRt.nd rfl (.inl rfl) (pe_call GA (hr.mono (by decide)) rfl mA kA bA .nil passL (pa_cons (pv 1) pa_nil)))
    (pss_cons (ps_set (i := 5) scRt.nd rfl (.inl rfl) (pe_lst pa_nil))
    (pss_cons (ps_for PassesOwn.never rfl (pi_list (pv 1)) (pg_name (i := 2) scRt.nd rfl (.inl rfl)) (pss_one (ps_set (i := 5) scRt.nd rfl (.inl rfl) (pe_call GM (hr.mono (by decide)) rfl mM kM bM .nil pass0 (pa_cons (pv 5) (pa_cons (pv 2) pa_nil))))))
    (pss_cons (ps_if (PW.pt (pw_or (pt_cmpR (op_neD hr.units) (pv 4) (pv 5) (nomark _)) (pw_or (pt_cmpR (op_neD hr.units) (pe_callK0 GA (hr.mono (by decide)) rfl mA kA kbA passL (pk_cons (pv 1) pk_nil)) (pv 5) (nomark _))
        (pw_or1 (PW.pt (pw_and (pt_cmpR (op_neD hr.units) (pv 1) (pe_lst pa_nil) (nomark _)) (pw_and1 (pt_cmpR (op_neD hr.units) (pe_call GT hr rfl mT kT bT .nil pass0 (pa_cons (pv 0) (pa_cons (pv 1) pa_nil))) (pv 5) (nomark _)))))))))
      (pss_one (ps_ret pe_bl)) pss_nil)
    (pss_cons (ps_expr (pe_bm PySem.F.plainAttrs_list PySem.F.slot_list_append PySem.F.type_list_append mt_append (pv 4) (pa_cons pe_non pa_nil)))
    (pss_cons (ps_if (PW.pt (pw_or (pt_cmpR (op_neD hr.units) (pe_call GA (hr.mono (by decide)) rfl mA kA bA .nil passL (pa_cons (pv 1) pa_nil)) (pv 5) (nomark _))
        (pw_or1 (pt_cmpR op_ne (pe_callB (call_repD hg hr.units) (by rfl) T.repr (by decide +kernel) (pa_cons (pv 1) pa_nil)) (pv 3) (nomark _))))) (pss_one (ps_ret pe_bl)) pss_nil)
    (pss_cons (ps_for PassesOwn.never rfl (pi_list (pe_lst (pa_cons pe_non (pa_cons (pe_tup (pa_cons pe_int pa_nil)) (pa_cons pe_str (pa_cons (pe_lst (pa_cons pe_non pa_nil)) (pa_cons (pe_lst (pa_cons pe_bl pa_nil)) (pa_cons (pe_lst (pa_cons pe_int (pa_cons pe_non pa_nil)))
        (pa_cons (pe_lst (pa_cons pe_bl (pa_cons pe_int pa_nil))) (pa_cons (pe_lst (pa_cons pe_int (pa_cons pe_int (pa_cons pe_str pa_nil)))) (pa_cons pe_dnewK (pa_cons pe_int pa_nil)))))))))))) (pg_name (i := 6) scRt.nd rfl (.inl rfl))
      (pss_cons (ps_set (i := 7) scRt.nd rfl (.inl rfl) (pe_op op_mod (pe_callTy call_int1 (by rfl) T.int (by decide +kernel) (pa_cons (pe_call GN (hr.mono (by decide)) rfl mN kN bN .nil pass0 (pa_cons (pv 0) pa_nil)) pa_nil))
        (pe_op op_add (pe_callB call_len_seq (by rfl) T.len PySem.boot_len (pa_cons (pv 1) pa_nil)) pe_int)))
      (pss_cons (ps_if (PW.pt (pw_or (pt_cmpR op_ne (pe_call GK (hr.mono (by decide)) rfl mK kK bK .nil pass0 (pa_cons (pe_op op_cat (pe_op op_cat (pe_op op_cat (pe_slice sl_list (pv 1) po_none (po_some (pv 7))) (pe_lst (pa_cons (pv 6) pa_nil))) (pe_slice sl_list (pv 1) (po_some (pv 7)) po_none)) (pe_lst (pa_cons pe_non pa_nil))) pa_nil))
          (pe_callB call_rep2 (by rfl) T.repr (by decide +kernel) (pa_cons (pv 7) pa_nil)) (nomark _))
        (pw_or1 (pt_cmpR op_ne (pe_call GK (hr.mono (by decide)) rfl mK kK bK .nil pass0 (pa_cons (pe_lst (pa_cons (pv 6) pa_nil)) pa_nil)) pe_str (nomark _))))) (pss_one (ps_ret pe_bl)) pss_nil)
      (pss_one (ps_if (pt_cmpR op_ne (pe_call GK (hr.mono (by decide)) rfl mK kK bK .nil pass0 (pa_cons (pe_op op_cat (pv 1) (pe_lst (pa_cons (pv 6) pa_nil))) pa_nil)) (pe_callTy call_str_int (by rfl) T.str (by decide +kernel) (pa_cons (pe_callB call_len_seq (by rfl) T.len PySem.boot_len (pa_cons (pv 1) pa_nil)) pa_nil)) (nomark _))
        (pss_one (ps_ret pe_bl)) pss_nil)))))
    (pss_cons (ps_if (pt_not (pt_val (pe_callG G12 hg (hr.mono (by decide)) rfl m12 k12 b12 (pa_cons (pv 0) pa_nil)))) (pss_one (ps_ret pe_bl)) pss_nil)
    (pss_one (ps_ret (pe_cmpR (op_eqD hr.units)
      (pe_lc (own := [("_law_bad", 6)]) (g := gName 6) rfl scRt.nd (pi_list (pe_lst (pa_cons pe_non (pa_cons pe_int (pa_cons pe_str (pa_cons (pe_callTy call_tuple_of (by rfl) T.tuple (by decide +kernel) (pa_cons (pv 1) pa_nil)) (pa_cons pe_dnewK pa_nil)))))))
        (blkOk_by (N := nRt) (sc := defScope sRight) (by decide +kernel)) (fun _ _ _ _ _ => pg_name (i := 6) scRt.nd rfl (.inl rfl))
        (fun _ _ _ _ _ => pts_one (pt_cmpR op_ne (pe_call GK (hr.mono (by decide)) rfl mK kK bK .nil pass0 (pa_cons (pv 6) pa_nil)) pe_str (nomark _))) (fun _ _ _ _ _ => pv 6))
      (pe_lst pa_nil) (nomark _)))))))))))))), ?_⟩
  -- the lists are drawn
  refine ⟨_, rfl, d, m, rfl, by omega, hd, fun z H1 z0 z1 S1 hd1 => .inl ⟨z, rfl, z, 7, rfl, rfl, (by show (0 : Int) < 7; decide), _, rfl, (by show -(2 ^ 62) ≤ z % 7; omega), (by show z % 7 < 2 ^ 62; omega), fun D hD => ?_⟩⟩
  have Dd : D ≠ d := hd1.ne hD
  refine lc_range (lo := 0) (n := (z % 7).toNat) (fun j H' => SameX d H1 H' ∧ Dr H' d (m + 1 + 40 * j) ∧ ∃ rs : List (Addr × List Int), H' D = some (.lst (rs.map rf)) ∧ rs.length = j ∧ ∀ r ∈ rs, okR D 8 H' r) ?_ (fun j H' hj p => ?_) (fun H2 p => ?_)
  · exact ⟨sx (same_new hD _), dr_upd hd1 Dd, [], upd_same, rfl, fun r hr => absurd hr List.not_mem_nil⟩
  · obtain ⟨S, hdr, rs, hrs, hlen, hok⟩ := p
    have hj9 : j < 7 := by omega
    refine ⟨wipe1, ?_⟩
    refine yes_of ?_
    refine ⟨_, rfl, d, m + 1 + 40 * j, 8, rfl, by decide, by omega, hdr, fun p ns H3 S3 hd3 hp e hl ht => ?_⟩
    have pD : p ≠ D := ne_of_none' hrs hp
    refine ⟨_, S3 D _ Dd hrs, by rw [List.length_map, hlen]; exact smallT (by omega), fun b o hb' e' => ?_, dr_upd (hd3.mono (by omega)) Dd, rs ++ [(p, ns)], ?_, ?_, fun r hr' => ?_⟩
    · rw [upd_ne (ne_of_none e' hD)]
      exact S3 b o hb' (S b o hb' e')
    · rw [upd_same, List.map_append]
      rfl
    · rw [List.length_append, hlen]
      rfl
    · rcases List.mem_append.mp hr' with h1 | h1
      · obtain ⟨n1, n2, n3⟩ := hok r h1
        exact ⟨n1, by rw [upd_ne n1]; exact S3 _ _ (hdr.neO n2 fun _ _ _ => LI_ne) n2, n3⟩
      · rw [List.mem_singleton.mp h1]
        exact ⟨pD, by rw [upd_ne pD]; exact e, hl, ht⟩
  obtain ⟨S2, hd2, rs0, hrs0, hlen0, hok0⟩ := p
  have hl06 : rs0.length ≤ 6 := by omega
  have hd2 : Dr H2 d (m + 300) := hd2.mono (by omega)
  -- rows take the place of some
  refine ⟨_, rfl, D, rfl, ⟨_, SqL.of hrs0⟩, fun A hA => ?_⟩
  have Ad : A ≠ d := hd2.ne hA
  refine lc_list (xs := rs0.map rf) (fun j H' => SameX d H2 H' ∧ Dr H' d (m + 300 + 41 * j) ∧ ∃ rs : List (Addr × List Int), H' A = some (.lst (rs.map rf)) ∧ rs.length = j ∧ ∀ r ∈ rs, okR A 36 H' r) ?_ (fun j H' _ p => ?_) (fun j x H' hx p => ?_) (fun H3 p => ?_)
  · exact ⟨sx (same_new hA _), dr_upd hd2 Ad, [], upd_same, rfl, fun r hr => absurd hr List.not_mem_nil⟩
  · exact SqL.of (p.1 D _ Dd hrs0)
  · obtain ⟨S, hdr, rs, hrs, hlen, hok⟩ := p
    obtain ⟨r0, hr0, rfl⟩ := map_get hx
    have hrm := List.mem_of_getElem? hr0
    have hj9 : j < 6 := by have := (List.getElem?_eq_some_iff.mp hr0).1; omega
    obtain ⟨_, o2, o3, o4⟩ := hok0 r0 hrm
    -- an item joins
    have join : ∀ (r : Addr × List Int) (H4 : Hp), SameX d H' H4 → Dr H4 d (m + 300 + 41 * j + 41) → okR A 36 H4 r → ∃ acc, H4 A = some (.lst acc) ∧ acc.length < sizeLine ∧ SameX d H2 (upd H4 A (.lst (acc ++ [.ref r.1]))) ∧ Dr (upd H4 A (.lst (acc ++ [.ref r.1]))) d (m + 300 + 41 * (j + 1)) ∧
        ∃ rs : List (Addr × List Int), (upd H4 A (.lst (acc ++ [.ref r.1]))) A = some (.lst (rs.map rf)) ∧ rs.length = j + 1 ∧ ∀ r' ∈ rs, okR A 36 (upd H4 A (.lst (acc ++ [.ref r.1]))) r' := fun r H4 S4 hd4 hr => by
      refine ⟨_, S4 A _ Ad hrs, by rw [List.length_map, hlen]; exact smallT (by omega), fun b o hb' e' => ?_, dr_upd (hd4.mono (by omega)) Ad, rs ++ [r], ?_, ?_, fun r' hr' => ?_⟩
      · rw [upd_ne (ne_of_none e' hA)]
        exact S4 b o hb' (S b o hb' e')
      · rw [upd_same, List.map_append]
        rfl
      · rw [List.length_append, hlen]
        rfl
      · rcases List.mem_append.mp hr' with h1 | h1
        · obtain ⟨n1, n2, n3⟩ := hok r' h1
          exact ⟨n1, by rw [upd_ne n1]; exact S4 _ _ (hdr.neO n2 fun _ _ _ => LI_ne) n2, n3⟩
        · rw [List.mem_singleton.mp h1]
          obtain ⟨n1, n2, n3⟩ := hr
          exact ⟨n1, by rw [upd_ne n1]; exact n2, n3⟩
    refine ⟨wipe1, ?_⟩
    refine yes_of ?_
    refine ⟨_, rfl, d, m + 300 + 41 * j, rfl, by omega, hdr, fun z4 H4 z40 z41 S4 hd4 => .inl ⟨z4, rfl, z4, 3, rfl, rfl, (by show (0 : Int) < 3; decide), rfl, _, rfl, ite2 (fun _ => ?_) (fun _ => ?_)⟩⟩
    · refine ⟨_, rfl, d, m + 300 + 41 * j + 1, 4, rfl, by decide, by omega, hd4, fun p ns H5 S5 hd5 hp e hl ht => ?_⟩
      have pA : p ≠ A := ne_of_none' (S4 A _ Ad hrs) hp
      exact join (p, ns) H5 (S4.trans S5) hd5 ⟨pA, e, hl, ht⟩
    · have rd : r0.1 ≠ d := hd2.neO o2 fun _ _ _ => LI_ne
      refine ⟨_, rfl, join r0 H4 S4 (hd4.mono (by omega)) ⟨ne_of_none o2 hA, S4 _ _ rd (S _ _ rd o2), by omega, o4⟩⟩
  obtain ⟨S3, hd3, rs, hrs, hlen, hok⟩ := p
  have hn6 : rs.length ≤ 6 := by rw [hlen, List.length_map]; exact hl06
  have hd3 : Dr H3 d (m + 550) := hd3.mono (by rw [List.length_map]; omega)
  have S03 : SameX d H H3 := S1.trans (S2.trans S3)
  have hL3 : LLs H3 rs := fun r hr' => (hok r hr').2.1
  have tame : ∀ r ∈ rs, Tame r.2 := fun r hr' => (hok r hr').2.2.2
  have l1000 : ∀ r ∈ rs, r.2.length ≤ 1000 := fun r hr' => Nat.le_trans (hok r hr').2.2.1 (by decide)
  have n100 : rs.length ≤ 100 := by omega
  refine repr_te (i := 1) rfl hrs hL3 tame l1000 n100 ?_
  refine ⟨_, rfl, .ref A, rfl, .inr ⟨A, rs, rfl, hrs, hL3, n100, l1000, fun pt H4 S4 hpt et => ?_⟩⟩
  refine ⟨(by show 0 ≤ sizeLine; decide), fun t ht => ?_⟩
  have S5 := same_new ht (.lst [])
  refine ⟨_, rfl, A, rfl, ⟨_, SqL.of (S5 _ _ (S4 _ _ hrs))⟩, ?_⟩
  refine for_list (xs := rs.map rf) (fun i σ H' => ∃ (t : Addr) (o2 : Option V), σ = [some (.ref d), some (.ref A), o2, some (.str (dL rs).shown), some (.ref pt), some (.ref t), none, none, none] ∧ Same H4 H' ∧ H4 t = none ∧ H' t = some (LI (foldM ((rs.take i).map (·.2))))) ?_ (fun i σ H' _ p => ?_) (fun i x σ H5 hx p => ?_) (fun σ H5 p => ?_)
  · exact ⟨t, none, rfl, S5, ht, by rw [upd_same]; rfl⟩
  · obtain ⟨t, o5, _, S, _⟩ := p
    exact SqL.of (S _ _ (S4 _ _ hrs))
  · obtain ⟨t, o5, rfl, S, ft, hT⟩ := p
    obtain ⟨r, hr1, rfl⟩ := map_get hx
    have hm' : r ∈ rs := List.mem_of_getElem? hr1
    refine ⟨_, rfl, _, rfl, t, r.1, _, r.2, rfl, hT, S _ _ (S4 _ _ (hL3 r hm')), ?_, fun p H' S' hp e => ?_⟩
    · have z1 := fold_small n100 l1000 i
      have z2 := l1000 r hm'
      omega
    · exact ⟨p, _, rfl, S.trans S', S.free hp, by rw [e, fold_step hr1]⟩
  obtain ⟨t, o2, rfl, S, ft, hT⟩ := p
  rw [List.length_map, List.take_length] at hT
  have x5 : Sit d A t rs (m + 550) H H5 := ⟨S03.trans (sx (S4.trans S)), hd3.same (S4.trans S), S _ _ (S4 _ _ hrs), hL3.same (S4.trans S), hT⟩
  have ePt := S _ _ et
  refine ⟨_, rfl, _, rfl, _, _, dp_ints ePt, dp_ints x5.due, shaped_ints _, shaped_ints _, false, congrArg V.bl (by rw [eqv_lists, decide_eq_true rfl]; rfl), iteF ?_⟩
  refine ⟨_, rfl, .ref A, rfl, .inr ⟨A, rs, rfl, x5.at_, x5.ls, n100, l1000, fun p6 H6 S6 hp6 e6 => ?_⟩⟩
  have x6 := x5.same S6
  refine ⟨_, rfl, _, _, dp_ints e6, dp_ints x6.due, shaped_ints _, shaped_ints _, false, congrArg V.bl (by rw [eqv_lists, decide_eq_true rfl]; rfl), iteF ?_⟩
  refine cond_tree x6 rfl rfl rfl hn6 l1000 (by omega) fun H7 S7 x7 => iteF ?_
  have ptd : pt ≠ d := hd3.ne hpt
  have eP7 := S7 pt _ ptd (S6 _ _ ePt)
  refine ⟨_, rfl, .inl ⟨rfl, _, .inl (.inl eP7)⟩, pt, _, _, rfl, rfl, eP7, smallT (by rw [List.length_map]; exact Nat.le_trans (fold_len n100 l1000) (by decide)), ?_⟩
  have x8 : Sit d A t rs (m + 550 + 6) H (upd H7 pt (.lst ((foldM (rs.map (·.2))).map V.int ++ [.non]))) := by
    refine ⟨fun b o hb' e => ?_, dr_upd x7.dr ptd, ?_, fun r hr' => ?_, ?_⟩
    · rw [upd_ne (ne_of_none e (S03.freeD hd3 hpt))]
      exact x7.S b o hb' e
    · rw [upd_ne (ne_of_none hrs hpt)]
      exact x7.at_
    · rw [upd_ne (ne_of_none (hL3 r hr') hpt)]
      exact x7.ls r hr'
    · rw [upd_ne (ne_of_none' et ft)]
      exact x7.due
  generalize hH8 : upd H7 pt (.lst ((foldM (rs.map (·.2))).map V.int ++ [.non])) = H8 at x8 ⊢
  refine ⟨_, rfl, .ref A, rfl, .inr ⟨A, rs, rfl, x8.at_, x8.ls, n100, l1000, fun p9 H9 S9 hp9 e9 => ?_⟩⟩
  have x9 := x8.same S9
  refine ⟨_, rfl, _, _, dp_ints e9, dp_ints x9.due, shaped_ints _, shaped_ints _, false, congrArg V.bl (by rw [eqv_lists, decide_eq_true rfl]; rfl), iteF ?_⟩
  refine repr_te (i := 1) rfl x9.at_ x9.ls tame l1000 n100 ⟨_, rfl, rfl, false, congrArg V.bl (by rw [decide_eq_true rfl]; rfl), iteF ?_⟩
  -- the bad things
  refine ⟨(by show 1 ≤ sizeLine; decide), fun q1 hq1 => ⟨(by show 1 ≤ sizeLine; decide), fun q2 hq2 => ⟨(by show 1 ≤ sizeLine; decide), fun q3 hq3 => ⟨(by show 2 ≤ sizeLine; decide), fun q4 hq4 => ⟨(by show 2 ≤ sizeLine; decide), fun q5 hq5 => ⟨(by show 3 ≤ sizeLine; decide), fun q6 hq6 => fun q7 hq7 => ⟨(by show 10 ≤ sizeLine; decide), fun q8 hq8 => ?_⟩⟩⟩⟩⟩⟩⟩
  have k1 := same_new hq1 (.tup [.int 1])
  have k2 := same_new hq2 (.lst [.non])
  have k3 := same_new hq3 (.lst [.bl true])
  have k4 := same_new hq4 (.lst [.int 5, .non])
  have k5 := same_new hq5 (.lst [.bl false, .int 5])
  have k6 := same_new hq6 (.lst [.int 5, .int 6, .str "1"])
  have k7 := same_new hq7 (.dK [])
  have k8 := same_new hq8 (.lst [.non, .ref q1, .str "ab", .ref q2, .ref q3, .ref q4, .ref q5, .ref q6, .ref q7, .int 5])
  have j7 := k8 _ _ (upd_same (H := _) (a := q7) (o := .dK []))
  have j6 := (k7.trans k8) _ _ upd_same
  have j5 := (k6.trans (k7.trans k8)) _ _ upd_same
  have j4 := (k5.trans (k6.trans (k7.trans k8))) _ _ upd_same
  have j3 := (k4.trans (k5.trans (k6.trans (k7.trans k8)))) _ _ upd_same
  have j2 := (k3.trans (k4.trans (k5.trans (k6.trans (k7.trans k8))))) _ _ upd_same
  have j1 := (k2.trans (k3.trans (k4.trans (k5.trans (k6.trans (k7.trans k8)))))) _ _ upd_same
  have xb := x9.same (k1.trans (k2.trans (k3.trans (k4.trans (k5.trans (k6.trans (k7.trans k8)))))))
  refine ⟨q8, rfl, ⟨_, SqL.of upd_same⟩, ?_⟩
  have j8 : (upd (upd (upd (upd (upd (upd (upd (upd H9 q1 (.tup [.int 1])) q2 (.lst [.non])) q3 (.lst [.bl true])) q4 (.lst [.int 5, .non])) q5 (.lst [.bl false, .int 5])) q6 (.lst [.int 5, .int 6, .str "1"])) q7 (.dK [])) q8 (.lst [.non, .ref q1, .str "ab", .ref q2, .ref q3, .ref q4, .ref q5, .ref q6, .ref q7, .int 5])) q8 = some (.lst [.non, .ref q1, .str "ab", .ref q2, .ref q3, .ref q4, .ref q5, .ref q6, .ref q7, .int 5]) := upd_same
  generalize hHb : upd (upd (upd (upd (upd (upd (upd (upd H9 q1 (.tup [.int 1])) q2 (.lst [.non])) q3 (.lst [.bl true])) q4 (.lst [.int 5, .non])) q5 (.lst [.bl false, .int 5])) q6 (.lst [.int 5, .int 6, .str "1"])) q7 (.dK [])) q8 (.lst [.non, .ref q1, .str "ab", .ref q2, .ref q3, .ref q4, .ref q5, .ref q6, .ref q7, .int 5]) = Hb at j1 j2 j3 j4 j5 j6 j7 j8 xb ⊢
  have n1 := xb.dr.neO j1 fun x k b e => by cases e
  have n2 := xb.dr.neO j2 fun x k b e => by cases e
  have n3 := xb.dr.neO j3 fun x k b e => by cases e
  have n4 := xb.dr.neO j4 fun x k b e => by cases e
  have n5 := xb.dr.neO j5 fun x k b e => by cases e
  have n6 := xb.dr.neO j6 fun x k b e => by cases e
  have n7 := xb.dr.neO j7 fun x k b e => by cases e
  have n8 := xb.dr.neO j8 fun x k b e => by cases e
  have bads : ∀ x ∈ [V.non, .ref q1, .str "ab", .ref q2, .ref q3, .ref q4, .ref q5, .ref q6, .ref q7, .int 5], BadI Hb x ∧ x ≠ .ref d := fun x hx => by
    have nr : ∀ {q : Addr}, q ≠ d → V.ref q ≠ .ref d := fun h e => h (by cases e; rfl)
    simp only [List.mem_cons, List.not_mem_nil, or_false] at hx
    rcases hx with rfl | rfl | rfl | rfl | rfl | rfl | rfl | rfl | rfl | rfl
    · exact ⟨.inl .non, fun e => by cases e⟩
    · exact ⟨.inl (.tup j1), nr n1⟩
    · exact ⟨.inl (.str _), fun e => by cases e⟩
    · exact ⟨.inr ⟨q2, _, rfl, j2, by decide, by decide, by decide⟩, nr n2⟩
    · exact ⟨.inr ⟨q3, _, rfl, j3, by decide, by decide, by decide⟩, nr n3⟩
    · exact ⟨.inr ⟨q4, _, rfl, j4, by decide, by decide, by decide⟩, nr n4⟩
    · exact ⟨.inr ⟨q5, _, rfl, j5, by decide, by decide, by decide⟩, nr n5⟩
    · exact ⟨.inr ⟨q6, _, rfl, j6, by decide, by decide, by decide⟩, nr n6⟩
    · exact ⟨.inl (.dk j7), nr n7⟩
    · exact ⟨.inl (.int _), fun e => by cases e⟩
  refine for_list (xs := [V.non, .ref q1, .str "ab", .ref q2, .ref q3, .ref q4, .ref q5, .ref q6, .ref q7, .int 5]) (fun i σ H' => ∃ (o2 o6 o7 : Option V), σ = [some (.ref d), some (.ref A), o2, some (.str (dL rs).shown), some (.ref pt), some (.ref t), o6, o7, none] ∧ Sit d A t rs (m + 556 + i) H H' ∧
      H' q8 = some (.lst [.non, .ref q1, .str "ab", .ref q2, .ref q3, .ref q4, .ref q5, .ref q6, .ref q7, .int 5]) ∧ ∀ x ∈ [V.non, .ref q1, .str "ab", .ref q2, .ref q3, .ref q4, .ref q5, .ref q6, .ref q7, .int 5], BadI H' x) ?_ (fun i σ H' _ p => SqL.of p.choose_spec.choose_spec.choose_spec.2.2.1) (fun i x σ H' hx p => ?_) (fun σ H' p => ?_)
  · exact ⟨_, none, none, rfl, xb.mono (by omega), j8, fun x hx => (bads x hx).1⟩
  · obtain ⟨o2', o6, o7, rfl, y0, jj, hb⟩ := p
    have hxm := List.mem_of_getElem? hx
    have hi10 : i < 10 := (List.getElem?_eq_some_iff.mp hx).1
    have hxd := (bads x hxm).2
    refine ⟨_, rfl, d, m + 556 + i, rfl, by omega, y0.dr, fun z Ha z0 z1 Sa hda => .inl ⟨z, rfl, ?_⟩⟩
    have ya := y0.x Sa hda
    have ba : ∀ x ∈ [V.non, .ref q1, .str "ab", .ref q2, .ref q3, .ref q4, .ref q5, .ref q6, .ref q7, .int 5], BadI Ha x := fun x hx => (hb x hx).x (bads x hx).2 Sa
    have ja := Sa _ _ n8 jj
    have hmod : (0 : Int) < ((rs.map rf).length : Int) + 1 := by omega
    obtain ⟨k, hk⟩ : ∃ k : Nat, z % (((rs.map rf).length : Int) + 1) = (k : Int) := ⟨_, (Int.toNat_of_nonneg (Int.emod_nonneg _ (by omega))).symm⟩
    have hkl : k ≤ rs.length := by
      have := Int.emod_lt_of_pos z hmod
      rw [hk, List.length_map] at this
      omega
    refine ⟨_, rfl, ⟨A, rs.map rf, rfl, .inl (SqL.of ya.at_), ⟨_, _, rfl, rfl, _, _, rfl, rfl, hmod, ?_⟩⟩⟩
    refine (?_ : gName 7 (.int (z % (((rs.map rf).length : Int) + 1))) _ Ha _)
    rw [hk]
    clear hk hmod
    -- kept(some[:at] + [bad] + some[at:] + [None])
    refine ⟨_, rfl, _, rfl, k, rfl, A, _, rfl, SqL.of ya.at_, fun a1 h1 => ?_⟩
    have s1 := same_new h1 (.lst (cutV (rs.map rf) none (some (k : Int))))
    have u1 : (upd Ha a1 (.lst (cutV (rs.map rf) none (some (k : Int))))) a1 = some (.lst (cutV (rs.map rf) none (some (k : Int)))) := upd_same
    generalize upd Ha a1 (.lst (cutV (rs.map rf) none (some (k : Int)))) = G1 at s1 u1 ⊢
    refine ⟨_, rfl, (by show 1 ≤ sizeLine; decide), fun a2 h2 => ?_⟩
    have s2 := same_new h2 (.lst [x])
    refine ⟨a1, a2, _, _, rfl, rfl, s2 _ _ u1, upd_same, ?_, fun a3 h3 => ?_⟩
    · rw [cut_hd, List.length_take, List.length_map]
      exact small (by show min k rs.length + 1 ≤ 1000000; omega)
    have s3 := s2.trans (same_new h3 (.lst (cutV (rs.map rf) none (some (k : Int)) ++ [x])))
    have u3 : (upd (upd G1 a2 (.lst [x])) a3 (.lst (cutV (rs.map rf) none (some (k : Int)) ++ [x]))) a3 = some (.lst (cutV (rs.map rf) none (some (k : Int)) ++ [x])) := upd_same
    generalize upd (upd G1 a2 (.lst [x])) a3 (.lst (cutV (rs.map rf) none (some (k : Int)) ++ [x])) = G3 at s3 u3 ⊢
    refine ⟨_, rfl, _, rfl, k, rfl, A, _, rfl, SqL.of ((s1.trans s3) _ _ ya.at_), fun a4 h4 => ?_⟩
    have s4 := same_new h4 (.lst (cutV (rs.map rf) (some (k : Int)) none))
    refine ⟨a3, a4, _, _, rfl, rfl, s4 _ _ u3, upd_same, ?_, fun a5 h5 => ?_⟩
    · rw [cut_hd, cut_from, List.length_append, List.length_take, List.length_drop, List.length_map]
      exact small (by show min k rs.length + 1 + (rs.length - k) ≤ 1000000; omega)
    have s5 := s4.trans (same_new h5 (.lst (cutV (rs.map rf) none (some (k : Int)) ++ [x] ++ cutV (rs.map rf) (some (k : Int)) none)))
    have u5 : (upd (upd G3 a4 (.lst (cutV (rs.map rf) (some (k : Int)) none))) a5 (.lst (cutV (rs.map rf) none (some (k : Int)) ++ [x] ++ cutV (rs.map rf) (some (k : Int)) none))) a5 = some (.lst (cutV (rs.map rf) none (some (k : Int)) ++ [x] ++ cutV (rs.map rf) (some (k : Int)) none)) := upd_same
    generalize upd (upd G3 a4 (.lst (cutV (rs.map rf) (some (k : Int)) none))) a5 (.lst (cutV (rs.map rf) none (some (k : Int)) ++ [x] ++ cutV (rs.map rf) (some (k : Int)) none)) = G5 at s5 u5 ⊢
    refine ⟨(by show 1 ≤ sizeLine; decide), fun a6 h6 => ?_⟩
    have s6 := same_new h6 (.lst [.non])
    refine ⟨a5, a6, _, _, rfl, rfl, s6 _ _ u5, upd_same, ?_, fun a7 h7 => ?_⟩
    · rw [cut_hd, cut_from, List.length_append, List.length_append, List.length_take, List.length_drop, List.length_map]
      exact small (by show min k rs.length + 1 + (rs.length - k) + 1 ≤ 1000000; omega)
    have e7 : cutV (rs.map rf) none (some (k : Int)) ++ [x] ++ cutV (rs.map rf) (some (k : Int)) none ++ [.non] = (rs.take k).map rf ++ x :: ((rs.map rf).drop k ++ [.non]) := by
      rw [cut_hd, cut_from, List.map_take]
      simp only [List.append_assoc, List.cons_append, List.nil_append]
    rw [e7]
    have s7 := s6.trans (same_new h7 (.lst ((rs.take k).map rf ++ x :: ((rs.map rf).drop k ++ [.non]))))
    have u7 : (upd (upd G5 a6 (.lst [.non])) a7 (.lst ((rs.take k).map rf ++ x :: ((rs.map rf).drop k ++ [.non])))) a7 = some (.lst ((rs.take k).map rf ++ x :: ((rs.map rf).drop k ++ [.non]))) := upd_same
    generalize upd (upd G5 a6 (.lst [.non])) a7 (.lst ((rs.take k).map rf ++ x :: ((rs.map rf).drop k ++ [.non]))) = G7 at s7 u7 ⊢
    have s17 := s1.trans (s3.trans (s5.trans s7))
    have y7 := ya.same s17
    have b7 : BadI G7 x := (ba x hxm).same s17
    have lenk : (rs.take k).length = k := List.length_take_of_le hkl
    have ge7 : ((rs.take k).map rf ++ x :: ((rs.map rf).drop k ++ [.non]))[k]? = some x := by
      have := pre_at (pre := rs.take k) (bad := x) (rest := (rs.map rf).drop k ++ [.non])
      rw [lenk] at this
      exact this
    have pf7 : ∀ j, j < k → ∀ z, ((rs.take k).map rf ++ x :: ((rs.map rf).drop k ++ [.non]))[j]? = some z → FlatL G7 z true := fun j hj => by
      have := kept_pf (H := G7) (pre := rs.take k) (bad := x) (rest := (rs.map rf).drop k ++ [.non]) (fun r hr' => y7.ls r (List.mem_of_mem_take hr')) (fun r hr' => l1000 r (List.mem_of_mem_take hr')) j
      rw [lenk] at this
      exact this hj
    refine ⟨_, rfl, .inr ⟨a7, _, k, x, rfl, u7, ge7, b7, pf7, by omega, fun G8 s8 => ?_⟩⟩
    refine ⟨_, rfl, .inl ⟨(k : Int), rfl, log_small (by omega), rfl, false, congrArg V.bl (by rw [decide_eq_true rfl]; rfl), iteF ?_⟩⟩
    have y8 := y7.same s8
    have b8 : BadI G8 x := b7.same s8
    -- kept([bad])
    refine ⟨_, rfl, (by show 1 ≤ sizeLine; decide), fun a9 h9 => ?_⟩
    have s9 := same_new h9 (.lst [x])
    have u9 : (upd G8 a9 (.lst [x])) a9 = some (.lst [x]) := upd_same
    have y9 := y8.same s9
    have b9 := b8.same s9
    generalize upd G8 a9 (.lst [x]) = G9 at s9 u9 y9 b9 ⊢
    refine ⟨_, rfl, .inr ⟨a9, [x], 0, x, rfl, u9, rfl, b9, fun j hj => absurd hj (Nat.not_lt_zero j), by omega, fun G10 s10 => ?_⟩⟩
    refine ⟨rfl, false, congrArg V.bl (by decide +kernel), iteF ?_⟩
    have y10 := y9.same s10
    have b10 := b9.same s10
    -- kept(some + [bad])
    refine ⟨_, rfl, _, rfl, (by show 1 ≤ sizeLine; decide), fun a11 h11 => ?_⟩
    have s11 := same_new h11 (.lst [x])
    refine ⟨A, a11, _, _, rfl, rfl, s11 _ _ y10.at_, upd_same, ?_, fun a12 h12 => ?_⟩
    · rw [List.length_map]
      exact small (by show rs.length + 1 ≤ 1000000; omega)
    have s12 := s11.trans (same_new h12 (.lst (rs.map rf ++ [x])))
    have u12 : (upd (upd G10 a11 (.lst [x])) a12 (.lst (rs.map rf ++ [x]))) a12 = some (.lst (rs.map rf ++ [x])) := upd_same
    generalize upd (upd G10 a11 (.lst [x])) a12 (.lst (rs.map rf ++ [x])) = G12' at s12 u12 ⊢
    have y12 := y10.same s12
    refine ⟨_, rfl, .inr ⟨a12, _, rs.length, x, rfl, u12, pre_at, b10.same s12, kept_pf (H := G12') (fun r hr' => y12.ls r hr') l1000, by omega, fun G13 s13 => ?_⟩⟩
    have y13 := y12.same s13
    refine ⟨_, rfl, A, rs.map rf, rfl, .inl (SqL.of y13.at_), ?_⟩
    rw [List.length_map]
    refine ⟨_, rfl, log_small (by omega), rfl, false, congrArg V.bl (by rw [decide_eq_true rfl]; rfl), iteF ?_⟩
    have sAll := s17.trans (s8.trans (s9.trans (s10.trans (s12.trans s13))))
    exact ⟨_, _, _, rfl, y13, sAll _ _ ja, fun z hz => (ba z hz).same sAll⟩
  · obtain ⟨o2', o6, o7, rfl, y0, _, _⟩ := p
    refine ⟨_, rfl, d, m + 566, rfl, by omega, y0.dr, fun Ha Sa hda => ⟨true, rfl, iteF ?_⟩⟩
    have ya := y0.x Sa hda
    refine ⟨_, rfl, A, _, rfl, .inl ⟨SqL.of ya.at_, fun l hl => fun q9 hq9 => ⟨(by show 5 ≤ sizeLine; decide), fun L hL => ?_⟩⟩⟩
    have s1 := same_new hl (.tup (rs.map rf))
    have s2 := same_new hq9 (.dK [])
    have s3 := same_new hL (.lst [.non, .int 5, .str "", .ref l, .ref q9])
    have u1 := (s2.trans s3) _ _ (upd_same (H := Ha) (a := l) (o := .tup (rs.map rf)))
    have u2 := s3 _ _ (upd_same (H := upd Ha l (.tup (rs.map rf))) (a := q9) (o := .dK []))
    have u3 : (upd (upd (upd Ha l (.tup (rs.map rf))) q9 (.dK [])) L (.lst [.non, .int 5, .str "", .ref l, .ref q9])) L = some (.lst [.non, .int 5, .str "", .ref l, .ref q9]) := upd_same
    have s13 := s1.trans (s2.trans s3)
    generalize upd (upd (upd Ha l (.tup (rs.map rf))) q9 (.dK [])) L (.lst [.non, .int 5, .str "", .ref l, .ref q9]) = Hc at s13 u1 u2 u3 ⊢
    have notl : ∀ x ∈ [V.non, .int 5, .str "", .ref l, .ref q9], NotL Hc x := fun x hx => by
      simp only [List.mem_cons, List.not_mem_nil, or_false] at hx
      rcases hx with rfl | rfl | rfl | rfl | rfl
      · exact .non
      · exact .int _
      · exact .str _
      · exact .tup u1
      · exact .dk u2
    refine ⟨L, rfl, ⟨_, SqL.of u3⟩, fun D hD => ?_⟩
    have sD := same_new hD (.lst [])
    refine lc_list (xs := [V.non, .int 5, .str "", .ref l, .ref q9]) (fun j H' => Same Hc H' ∧ H' D = some (.lst [])) ?_ (fun j H' _ p => ?_) (fun j x H' hx p => ?_) (fun H3 p => ?_)
    · exact ⟨sD, upd_same⟩
    · exact SqL.of (p.1 _ _ u3)
    · obtain ⟨S, hDn⟩ := p
      refine ⟨wipe1, ?_⟩
      refine ⟨_, rfl, x, rfl, .inl ⟨(notl x (List.mem_of_getElem? hx)).same S, fun H4 S4 => ⟨rfl, false, congrArg V.bl (by decide +kernel), iteF ?_⟩⟩⟩
      exact ⟨S.trans S4, S4 _ _ hDn⟩
    · obtain ⟨S, hDn⟩ := p
      refine ⟨(by show 0 ≤ sizeLine; decide), fun p hp => ?_⟩
      have s5 := same_new hp (.lst [])
      refine ⟨.list [], .list [], .lst (SqL.of (s5 _ _ hDn)) .nil, .lst (SqL.of upd_same) .nil, shaped_ints [], shaped_ints [], ?_⟩
      have sAll := s13.trans (S.trans s5)
      exact q _ ((ya.same sAll).S) ((ya.dr.same sAll).mono (by omega))
end
end MU
namespace MU
open PySem L2
section
variable {P : Program} {w : World} {K : PySem.W.Frag} {mg : Str → Option Value} {base : Heap} {f gD gR : Addr} {fd dD dR : FuncData}
def spLaw (K : PySem.W.Frag) : Sp := fun vs H Q _ => ∃ (a : Addr) (ns : List Int), vs = [.ref a] ∧ SqL K H a (ns.map V.int) ∧ ∀ H', Q (.bl true) H'
abbrev nLw : List Str := ["_law_script", "_law_draws_here", "_law_cell"]
theorem scLw : FnScope nLw ["_law_script"] (defScope sLaw) := ⟨rfl, rfl, rfl, by decide +kernel, rfl, by decide +kernel, by decide +kernel⟩
theorem nodup_snoc {α : Type} {l : List α} {p : α} (h : l.Nodup) (hp : p ∉ l) : (l ++ [p]).Nodup := by
  rw [List.nodup_append]
  refine ⟨h, by simp, fun x hx y hy e => ?_⟩
  rw [List.mem_singleton.mp hy] at e
  exact hp (e ▸ hx)
theorem ok_law (F : Fun K "law" "law" sLaw f fd) (T : Gs mg)
    (GD : FnOk P w K mg base CX0 1 gD dD ["_law_cell"] spDraws) (bD : Binds K dD ["_law_cell"] []) (kD : PySem.W.keepIn K (.ref gD) = true) (mD : mg "_law_draws" = some (.ref gD))
    (GR : FnG P w K mg base 10 gR dR ["_law_draws_here"] spRight) (bR : Binds K dR ["_law_draws_here"] []) (kR : PySem.W.keepIn K (.ref gR) = true) (mR : mg "_law_right" = some (.ref gR)) :
    FnG P w K mg base 11 f fd ["_law_script"] (spLaw K) := by
  refine okG F scLw (fun vs H Q E h => ?_) (fun cdv A outer s H vs Q E hr hg h => ?_)
  · obtain ⟨a, ns, rfl, _⟩ := h
    rfl
  obtain ⟨a, ns, rfl, hS, q⟩ := h
  refine ⟨_, pss_cons (ps_for PassesOwn.never rfl
      (pi_list (pe_lc (own := [("_law_cell", 2)]) (g := gName 2) (tt := tYes) rfl scLw.nd
        (pi_list (pe_op op_cat (pe_slice sl_list (pv 0) po_none (po_some pe_int)) (pe_lst (pa_cons pe_int pa_nil))))
        (blkOk_by (N := nLw) (sc := defScope sLaw) (by decide +kernel)) (fun _ _ _ _ _ => pg_name (i := 2) scLw.nd rfl (.inl rfl)) (fun _ _ _ _ _ => pts_nil)
        (fun _ _ _ _ _ => pe_call GD (hr.mono (by decide)) rfl mD kD bD .nil pass0 (pa_cons (pv 2) pa_nil))))
      (pg_name (i := 1) scLw.nd rfl (.inl rfl))
      (pss_one (ps_if (PW.pt (pw_or (pt_not (pt_val (pe_callG GR hg hr rfl mR kR bR (pa_cons (pv 1) pa_nil)))) (pw_or1 (pt_not (pt_val (pe_callG GR hg hr rfl mR kR bR (pa_cons (pv 1) pa_nil)))))))
        (pss_one (ps_ret pe_bl)) pss_nil)))
    (pss_one (ps_ret pe_bl)), ?_⟩
  refine ⟨_, rfl, 6, rfl, a, _, rfl, hS, fun p1 h1 => ?_⟩
  have s1 := same_new h1 (.lst (cutV (ns.map V.int) none (some 6)))
  refine ⟨(by show 1 ≤ sizeLine; decide), fun p2 h2 => ?_⟩
  have s2 := same_new h2 (.lst [.int 0])
  refine ⟨p1, p2, _, _, rfl, rfl, s2 _ _ upd_same, upd_same, ?_, fun p3 h3 => ?_⟩
  · rw [show (6 : Int) = ((6 : Nat) : Int) from rfl, cut_hd, List.length_take]
    exact small (by show min 6 _ + 1 ≤ 1000000; omega)
  have ec : cutV (ns.map V.int) none (some 6) ++ [.int 0] = (ns.take 6 ++ [0]).map V.int := by
    rw [show (6 : Int) = ((6 : Nat) : Int) from rfl, cut_hd, List.map_append, List.map_take]
    rfl
  rw [ec]
  have hs7 : (ns.take 6 ++ [0]).length ≤ 7 := by
    rw [List.length_append, List.length_take]
    show min 6 _ + 1 ≤ 7
    omega
  have u3 : (upd (upd (upd H p1 (.lst (cutV (ns.map V.int) none (some 6)))) p2 (.lst [.int 0])) p3 (.lst ((ns.take 6 ++ [0]).map V.int))) p3 = some (.lst ((ns.take 6 ++ [0]).map V.int)) := upd_same
  generalize upd (upd (upd H p1 (.lst (cutV (ns.map V.int) none (some 6)))) p2 (.lst [.int 0])) p3 (.lst ((ns.take 6 ++ [0]).map V.int)) = H3 at u3 ⊢
  generalize ns.take 6 ++ [0] = cs at u3 hs7 ⊢
  refine ⟨p3, rfl, ⟨_, SqL.of u3⟩, fun D hD => ?_⟩
  refine lc_list (xs := cs.map V.int) (fun j H' => (∀ b o, b ≠ D → H3 b = some o → H' b = some o) ∧ ∃ ds : List Addr, H' D = some (.lst (ds.map V.ref)) ∧ ds.length = j ∧ ds.Nodup ∧ ∀ p ∈ ds, p ≠ D ∧ Dr H' p 0) ?_ (fun j H' _ p => ?_) (fun j x H' hx p => ?_) (fun H4 p => ?_)
  · exact ⟨fun b o hb e => by rw [upd_ne hb]; exact e, [], upd_same, rfl, List.nodup_nil, fun p hp => absurd hp List.not_mem_nil⟩
  · exact SqL.of (p.1 _ _ (fun e => by rw [e, hD] at u3; cases u3) u3)
  · obtain ⟨S, ds, hds, hlen, hnd, hdr⟩ := p
    have hj : j < 7 := by
      have := (List.getElem?_eq_some_iff.mp hx).1
      rw [List.length_map] at this
      omega
    obtain ⟨c, hc, rfl⟩ : ∃ c, cs[j]? = some c ∧ x = .int c := by
      rw [List.getElem?_map] at hx
      obtain ⟨r, h1, h2⟩ := Option.map_eq_some_iff.mp hx
      exact ⟨r, h1, h2.symm⟩
    refine ⟨wipe1, ?_⟩
    refine yes_of ?_
    refine ⟨_, rfl, c, rfl, fun p H5 S5 hp hdp => ?_⟩
    have pD : p ≠ D := ne_of_none' hds hp
    refine ⟨_, S5 _ _ hds, by rw [List.length_map, hlen]; exact smallT (by omega), fun b o hb e => ?_, ds ++ [p], ?_, ?_, nodup_snoc hnd fun hm => ?_, fun r hr' => ?_⟩
    · rw [upd_ne hb]
      exact S5 _ _ (S b o hb e)
    · rw [upd_same, List.map_append]
      rfl
    · rw [List.length_append, hlen]
      rfl
    · exact (hdr p hm).2.ne hp rfl
    · rcases List.mem_append.mp hr' with h1 | h1
      · exact ⟨(hdr r h1).1, dr_upd ((hdr r h1).2.same S5) (hdr r h1).1.symm⟩
      · rw [List.mem_singleton.mp h1]
        exact ⟨pD, dr_upd hdp pD.symm⟩
  obtain ⟨_, ds, hds, _, hnd, hdr⟩ := p
  refine ⟨D, rfl, ⟨_, SqL.of hds⟩, ?_⟩
  refine for_list (xs := ds.map V.ref) (fun i σ H' => ∃ o1 : Option V, σ = [some (.ref a), o1, none] ∧ H' D = some (.lst (ds.map V.ref)) ∧ ∀ j, i ≤ j → ∀ p, ds[j]? = some p → Dr H' p 0) ?_ (fun i σ H' _ p => SqL.of p.choose_spec.2.1) (fun i x σ H' hx p => ?_) (fun σ H' p => ?_)
  · exact ⟨none, rfl, hds, fun j _ p hp => (hdr p (List.mem_of_getElem? hp)).2⟩
  · obtain ⟨o1, rfl, hD', hrest⟩ := p
    obtain ⟨d, hd1, rfl⟩ : ∃ c, ds[i]? = some c ∧ x = .ref c := by
      rw [List.getElem?_map] at hx
      obtain ⟨r, h1, h2⟩ := Option.map_eq_some_iff.mp hx
      exact ⟨r, h1, h2.symm⟩
    have dD := (hdr d (List.mem_of_getElem? hd1)).1
    have dr0 := hrest i (Nat.le_refl i) d hd1
    refine ⟨_, rfl, d, 0, rfl, by decide, dr0, fun H1 S1 dr1 => ⟨true, rfl, iteF ?_⟩⟩
    refine ⟨_, rfl, d, _, rfl, by decide, dr1, fun H2 S2 dr2 => ⟨true, rfl, iteF ?_⟩⟩
    have S12 := S1.trans S2
    refine ⟨_, rfl, S12 _ _ dD.symm hD', fun j hj p hp => ?_⟩
    have pd : p ≠ d := fun e => by
      have h1 := (List.getElem?_eq_some_iff.mp hd1)
      have h2 := (List.getElem?_eq_some_iff.mp hp)
      obtain ⟨l1, e1⟩ := h1
      obtain ⟨l2, e2⟩ := h2
      have := (List.getElem_inj (h₀ := l1) (h₁ := l2) hnd).mp (by rw [e1, e2, e])
      omega
    obtain ⟨x, k, b, e1, r⟩ := hrest j (by omega) p hp
    exact ⟨x, k, b, S12 _ _ pd e1, r⟩
  · obtain ⟨o1, rfl, _, _⟩ := p
    exact q _
end
end MU
namespace MU
open PySem L2
theorem exm_own {K : PySem.W.Frag} {S : Addr} (h1 : PySem.W.subIn K (.ref S) (.type "BaseException") = some true) (h2 : PySem.W.isClsIn K S = true) (h3 : PySem.W.typeIn K (.ref S) = some (.type "type")) (h4 : PySem.W.subIn K (.ref S) (.ref S) = some true) : PySem.W.exmOne K (.ref S) (.ref S) = some true := by
  have e2 : (PySem.W.clsIn K S).isSome = true := h2
  have ek : PySem.W.kitCls K (.ref S) (.ref S) = some true := by
    show (if ((PySem.W.clsIn K S).isSome && PySem.W.typeIn K (.ref S) == some (.type "type")) = true then PySem.W.subIn K (.ref S) (.ref S) else none) = some true
    rw [e2, h3, h4]
    exact if_pos (by decide +kernel)
  unfold PySem.W.exmOne
  rw [h1, ek]
  exact if_pos (by decide +kernel)
theorem kit_sub {K : PySem.W.Frag} {S : Addr} (h : PySem.W.subIn K (.ref S) (.type "ValueError") = some true) : PySem.W.kitOne K (.ref S) (.type "ValueError") = some true := by
  have e1 : ¬ (Value.ref S == Value.type "ValueError") = true := fun z => Value.noConfusion (of_decide_eq_true z)
  have e2 : PySem.W.kitMeta "ValueError" = true := by decide +kernel
  unfold PySem.W.kitOne
  rw [if_neg e1]
  show (if PySem.W.kitMeta "ValueError" = true then PySem.W.subIn K (.ref S) (.type "ValueError") else none) = some true
  rw [if_pos e2]
  exact h
theorem all_mk {P : Program} {w : World} {K : PySem.W.Frag} {h : Heap} {mg : Str → Option Value} {fa C fI fW fCL fCS fM fMG fMA fA fD fN fDR fR fLM fT fK fTW fRT fL : Addr} (X : K.In h) (G : h.Ns mainGlobals mg) (hfa : mg "law" = some (.ref fa))
    {nm q : Str} {N : Addr} {bs : List Value} {sn : List Str} {sub : List Value} {ab : Bool} {col : Option Bool} {dd : Option Addr} {m0 m1 m2 m3 m5 : Option Value}
    {odW anW odCL anCL odCS anCS odM anM odMG anMG odMA anMA odA anA odD anD odN anN odDR anDR odR anR odLM anLM odT anT odK anK odTW anTW odRT anRT odL anL odI anI : Option Addr} {slW slCL slCS slM slMG slMA slA slD slN slDR slR slLM slT slK slTW slRT slL slI : Array (Option Value)} {ocW kVW dcW pmW cdW ctW ocCL kVCL dcCL pmCL cdCL ctCL ocCS kVCS dcCS pmCS cdCS ctCS ocM kVM dcM pmM cdM ctM ocMG kVMG dcMG pmMG cdMG ctMG ocMA kVMA dcMA pmMA cdMA ctMA ocA kVA dcA pmA cdA ctA ocD kVD dcD pmD cdD ctD ocN kVN dcN pmN cdN ctN ocDR kVDR dcDR pmDR cdDR ctDR ocR kVR dcR pmR cdR ctR ocLM kVLM dcLM pmLM cdLM ctLM ocT kVT dcT pmT cdT ctT ocK kVK dcK pmK cdK ctK ocTW kVTW dcTW pmTW cdTW ctTW ocRT kVRT dcRT pmRT cdRT ctRT ocL kVL dcL pmL cdL ctL ocI kVI dcI pmI cdI ctI : Value}
    (aW : PySem.W.nsIn K mainGlobals "is_whole" = some (some (.ref fW)))
    (lW : K.lookup fW = some ⟨ocW, odW, .func (PySem.W.fnOf "is_whole" "is_whole" (defArgs sWhole) (defBody sWhole) (defScope sWhole) .none kVW dcW pmW anW cdW ctW), slW⟩)
    (cW : PySem.W.codeIn K cdW "is_whole" = true)
    (kW : PySem.W.keepIn K (.ref fW) = true)
    (aCL : PySem.W.nsIn K mainGlobals "check_list" = some (some (.ref fCL)))
    (lCL : K.lookup fCL = some ⟨ocCL, odCL, .func (PySem.W.fnOf "check_list" "check_list" (defArgs sCkL) (defBody sCkL) (defScope sCkL) .none kVCL dcCL pmCL anCL cdCL ctCL), slCL⟩)
    (cCL : PySem.W.codeIn K cdCL "check_list" = true)
    (kCL : PySem.W.keepIn K (.ref fCL) = true)
    (aCS : PySem.W.nsIn K mainGlobals "check_lists" = some (some (.ref fCS)))
    (lCS : K.lookup fCS = some ⟨ocCS, odCS, .func (PySem.W.fnOf "check_lists" "check_lists" (defArgs sCkLs) (defBody sCkLs) (defScope sCkLs) .none kVCS dcCS pmCS anCS cdCS ctCS), slCS⟩)
    (cCS : PySem.W.codeIn K cdCS "check_lists" = true)
    (kCS : PySem.W.keepIn K (.ref fCS) = true)
    (aM : PySem.W.nsIn K mainGlobals "merged" = some (some (.ref fM)))
    (lM : K.lookup fM = some ⟨ocM, odM, .func (PySem.W.fnOf "merged" "merged" (defArgs sMgd) (defBody sMgd) (defScope sMgd) .none kVM dcM pmM anM cdM ctM), slM⟩)
    (cM : PySem.W.codeIn K cdM "merged" = true)
    (kM : PySem.W.keepIn K (.ref fM) = true)
    (aMG : PySem.W.nsIn K mainGlobals "merge" = some (some (.ref fMG)))
    (lMG : K.lookup fMG = some ⟨ocMG, odMG, .func (PySem.W.fnOf "merge" "merge" (defArgs sMg) (defBody sMg) (defScope sMg) .none kVMG dcMG pmMG anMG cdMG ctMG), slMG⟩)
    (cMG : PySem.W.codeIn K cdMG "merge" = true)
    (kMG : PySem.W.keepIn K (.ref fMG) = true)
    (aMA : PySem.W.nsIn K mainGlobals "merged_all" = some (some (.ref fMA)))
    (lMA : K.lookup fMA = some ⟨ocMA, odMA, .func (PySem.W.fnOf "merged_all" "merged_all" (defArgs sMgdA) (defBody sMgdA) (defScope sMgdA) .none kVMA dcMA pmMA anMA cdMA ctMA), slMA⟩)
    (cMA : PySem.W.codeIn K cdMA "merged_all" = true)
    (kMA : PySem.W.keepIn K (.ref fMA) = true)
    (aA : PySem.W.nsIn K mainGlobals "merge_all" = some (some (.ref fA)))
    (lA : K.lookup fA = some ⟨ocA, odA, .func (PySem.W.fnOf "merge_all" "merge_all" (defArgs sMgA) (defBody sMgA) (defScope sMgA) .none kVA dcA pmA anA cdA ctA), slA⟩)
    (cA : PySem.W.codeIn K cdA "merge_all" = true)
    (kA : PySem.W.keepIn K (.ref fA) = true)
    (aD : PySem.W.nsIn K mainGlobals "_law_draws" = some (some (.ref fD)))
    (lD : K.lookup fD = some ⟨ocD, odD, .func (PySem.W.fnOf "_law_draws" "_law_draws" (defArgs sDraws) (defBody sDraws) (defScope sDraws) .none kVD dcD pmD anD cdD ctD), slD⟩)
    (cD : PySem.W.codeIn K cdD "_law_draws" = true)
    (kD : PySem.W.keepIn K (.ref fD) = true)
    (aN : PySem.W.nsIn K mainGlobals "_law_next" = some (some (.ref fN)))
    (lN : K.lookup fN = some ⟨ocN, odN, .func (PySem.W.fnOf "_law_next" "_law_next" (defArgs sNext) (defBody sNext) (defScope sNext) .none kVN dcN pmN anN cdN ctN), slN⟩)
    (cN : PySem.W.codeIn K cdN "_law_next" = true)
    (kN : PySem.W.keepIn K (.ref fN) = true)
    (aDR : PySem.W.nsIn K mainGlobals "_law_drawn" = some (some (.ref fDR)))
    (lDR : K.lookup fDR = some ⟨ocDR, odDR, .func (PySem.W.fnOf "_law_drawn" "_law_drawn" (defArgs sDrawn) (defBody sDrawn) (defScope sDrawn) .none kVDR dcDR pmDR anDR cdDR ctDR), slDR⟩)
    (cDR : PySem.W.codeIn K cdDR "_law_drawn" = true)
    (kDR : PySem.W.keepIn K (.ref fDR) = true)
    (aR : PySem.W.nsIn K mainGlobals "_law_row" = some (some (.ref fR)))
    (lR : K.lookup fR = some ⟨ocR, odR, .func (PySem.W.fnOf "_law_row" "_law_row" (defArgs sRow) (defBody sRow) (defScope sRow) .none kVR dcR pmR anR cdR ctR), slR⟩)
    (cR : PySem.W.codeIn K cdR "_law_row" = true)
    (kR : PySem.W.keepIn K (.ref fR) = true)
    (aLM : PySem.W.nsIn K mainGlobals "_law_merged" = some (some (.ref fLM)))
    (lLM : K.lookup fLM = some ⟨ocLM, odLM, .func (PySem.W.fnOf "_law_merged" "_law_merged" (defArgs sLMgd) (defBody sLMgd) (defScope sLMgd) .none kVLM dcLM pmLM anLM cdLM ctLM), slLM⟩)
    (cLM : PySem.W.codeIn K cdLM "_law_merged" = true)
    (kLM : PySem.W.keepIn K (.ref fLM) = true)
    (aT : PySem.W.nsIn K mainGlobals "_law_by_tree" = some (some (.ref fT)))
    (lT : K.lookup fT = some ⟨ocT, odT, .func (PySem.W.fnOf "_law_by_tree" "_law_by_tree" (defArgs sTree) (defBody sTree) (defScope sTree) .none kVT dcT pmT anT cdT ctT), slT⟩)
    (cT : PySem.W.codeIn K cdT "_law_by_tree" = true)
    (kT : PySem.W.keepIn K (.ref fT) = true)
    (aK : PySem.W.nsIn K mainGlobals "_law_kept" = some (some (.ref fK)))
    (lK : K.lookup fK = some ⟨ocK, odK, .func (PySem.W.fnOf "_law_kept" "_law_kept" (defArgs sKept) (defBody sKept) (defScope sKept) .none kVK dcK pmK anK cdK ctK), slK⟩)
    (cK : PySem.W.codeIn K cdK "_law_kept" = true)
    (kK : PySem.W.keepIn K (.ref fK) = true)
    (aTW : PySem.W.nsIn K mainGlobals "_law_twelve_right" = some (some (.ref fTW)))
    (lTW : K.lookup fTW = some ⟨ocTW, odTW, .func (PySem.W.fnOf "_law_twelve_right" "_law_twelve_right" (defArgs sTwelve) (defBody sTwelve) (defScope sTwelve) .none kVTW dcTW pmTW anTW cdTW ctTW), slTW⟩)
    (cTW : PySem.W.codeIn K cdTW "_law_twelve_right" = true)
    (kTW : PySem.W.keepIn K (.ref fTW) = true)
    (aRT : PySem.W.nsIn K mainGlobals "_law_right" = some (some (.ref fRT)))
    (lRT : K.lookup fRT = some ⟨ocRT, odRT, .func (PySem.W.fnOf "_law_right" "_law_right" (defArgs sRight) (defBody sRight) (defScope sRight) .none kVRT dcRT pmRT anRT cdRT ctRT), slRT⟩)
    (cRT : PySem.W.codeIn K cdRT "_law_right" = true)
    (kRT : PySem.W.keepIn K (.ref fRT) = true)
    (aL : PySem.W.nsIn K mainGlobals "law" = some (some (.ref fL)))
    (lL : K.lookup fL = some ⟨ocL, odL, .func (PySem.W.fnOf "law" "law" (defArgs sLaw) (defBody sLaw) (defScope sLaw) .none kVL dcL pmL anL cdL ctL), slL⟩)
    (cL : PySem.W.codeIn K cdL "law" = true)
    (kL : PySem.W.keepIn K (.ref fL) = true)
    (z_isi : PySem.W.nsIn K mainGlobals "isinstance" = some none)
    (z_int : PySem.W.nsIn K mainGlobals "int" = some none)
    (z_bool : PySem.W.nsIn K mainGlobals "bool" = some none)
    (z_list : PySem.W.nsIn K mainGlobals "list" = some none)
    (z_enumr : PySem.W.nsIn K mainGlobals "enumerate" = some none)
    (z_all : PySem.W.nsIn K mainGlobals "all" = some none)
    (z_range : PySem.W.nsIn K mainGlobals "range" = some none)
    (z_sorted : PySem.W.nsIn K mainGlobals "sorted" = some none)
    (z_sum : PySem.W.nsIn K mainGlobals "sum" = some none)
    (z_len : PySem.W.nsIn K mainGlobals "len" = some none)
    (z_repr : PySem.W.nsIn K mainGlobals "repr" = some none)
    (z_str : PySem.W.nsIn K mainGlobals "str" = some none)
    (z_tuple : PySem.W.nsIn K mainGlobals "tuple" = some none)
    (z_verr : PySem.W.nsIn K mainGlobals "ValueError" = some none)
    (xC : PySem.W.nsIn K mainGlobals "InvalidLists" = some (some (.ref C)))
    (xL : K.lookup C = some (excClassObj nm q C N bs [.type "ValueError", .type "Exception", .type "BaseException", .type "object"] true sn sub ab col dd m0 m1 m2 m3 m5 "ValueError.__new__"))
    (xsa : PySem.W.findIn K (.ref C) "__setattr__" = some (some (.builtin "object.__setattr__")))
    (xsub : PySem.W.subIn K (.ref C) (.type "BaseException") = some true)
    (xty : PySem.W.typeIn K (.ref C) = some (.type "type"))
    (xk : PySem.W.keepIn K (.ref C) = true)
    (xi : PySem.W.findIn K (.ref C) "__init__" = some (some (.ref fI)))
    (xti : PySem.W.typeIn K (.ref fI) = some (.type "function"))
    (xno : PySem.W.findIn K (.ref C) "index" = some none)
    (xg : PySem.W.findIn K (.ref C) "__getattribute__" = some (some (.builtin "BaseException.__getattribute__")))
    (xgg : PySem.W.findIn K (.ref C) "__getattr__" = some none)
    (xhd : PySem.W.hasDictIn K C = true)
    (xha : PySem.W.findIn K (.ref C) "__class__" = some (some (.builtin "object.__class__")))
    (xhn : PySem.W.specialIn K (.builtin "object.__class__") "__get__" = some (some (.builtin "getset_descriptor.__get__")))
    (xht : PySem.W.takesIn K (.builtin "object.__class__") = some true)
    (xhm : PySem.W.mroIn K C (.type "object") = some true)
    (xic : PySem.W.isClsIn K C = true)
    (xsc : PySem.W.subIn K (.ref C) (.ref C) = some true)
    (xkv : PySem.W.subIn K (.ref C) (.type "ValueError") = some true)
    (lI : K.lookup fI = some ⟨ocI, odI, .func (PySem.W.fnOf "__init__" "InvalidLists.__init__" (defArgs sListsI) (defBody sListsI) (defScope sListsI) .none kVI dcI pmI anI cdI ctI), slI⟩)
    (cI : PySem.W.codeIn K cdI "InvalidLists.__init__" = true)
    (kI : PySem.W.keepIn K (.ref fI) = true) :
    ∃ fd : FuncData, (∀ (s : Shared) (u : Value), BindsTo s fd ⟨[u], []⟩ [("_law_script", u)]) ∧ ∀ base : Heap, K.In base → base.Ns mainGlobals mg → FnG P w K mg base 11 fa fd ["_law_script"] (spLaw K) := by
  have e := hfa.symm.trans (PySem.W.mg_of X G aL)
  cases e
  have FW := fun_mk (st := sWhole) lW cW kW
  have FCL := fun_mk (st := sCkL) lCL cCL kCL
  have FCS := fun_mk (st := sCkLs) lCS cCS kCS
  have FM := fun_mk (st := sMgd) lM cM kM
  have FMG := fun_mk (st := sMg) lMG cMG kMG
  have FMA := fun_mk (st := sMgdA) lMA cMA kMA
  have FA := fun_mk (st := sMgA) lA cA kA
  have FD := fun_mk (st := sDraws) lD cD kD
  have FN := fun_mk (st := sNext) lN cN kN
  have FDR := fun_mk (st := sDrawn) lDR cDR kDR
  have FR := fun_mk (st := sRow) lR cR kR
  have FLM := fun_mk (st := sLMgd) lLM cLM kLM
  have FT := fun_mk (st := sTree) lT cT kT
  have FK := fun_mk (st := sKept) lK cK kK
  have FTW := fun_mk (st := sTwelve) lTW cTW kTW
  have FRT := fun_mk (st := sRight) lRT cRT kRT
  have FL := fun_mk (st := sLaw) lL cL kL
  have FI := fun_mk (st := sListsI) lI cI kI
  have bW := FW.binds (ps := ["thing"]) fun _ _ _ _ _ _ us hl => match us, hl with | [_], _ => rfl
  have gW := PySem.W.mg_of X G aW
  have bCL := FCL.binds (ps := ["values"]) fun _ _ _ _ _ _ us hl => match us, hl with | [_], _ => rfl
  have gCL := PySem.W.mg_of X G aCL
  have bCS := FCS.binds (ps := ["lists"]) fun _ _ _ _ _ _ us hl => match us, hl with | [_], _ => rfl
  have gCS := PySem.W.mg_of X G aCS
  have bM := FM.binds (ps := ["one", "other"]) fun _ _ _ _ _ _ us hl => match us, hl with | [_, _], _ => rfl
  have gM := PySem.W.mg_of X G aM
  have bMG := FMG.binds (ps := ["one", "other"]) fun _ _ _ _ _ _ us hl => match us, hl with | [_, _], _ => rfl
  have gMG := PySem.W.mg_of X G aMG
  have bMA := FMA.binds (ps := ["lists"]) fun _ _ _ _ _ _ us hl => match us, hl with | [_], _ => rfl
  have gMA := PySem.W.mg_of X G aMA
  have bA := FA.binds (ps := ["lists"]) fun _ _ _ _ _ _ us hl => match us, hl with | [_], _ => rfl
  have gA := PySem.W.mg_of X G aA
  have bD := FD.binds (ps := ["_law_cell"]) fun _ _ _ _ _ _ us hl => match us, hl with | [_], _ => rfl
  have gD := PySem.W.mg_of X G aD
  have bN := FN.binds (ps := ["_law_draws_here"]) fun _ _ _ _ _ _ us hl => match us, hl with | [_], _ => rfl
  have gN := PySem.W.mg_of X G aN
  have bDR := FDR.binds (ps := ["_law_draws_here", "_law_most"]) fun _ _ _ _ _ _ us hl => match us, hl with | [_, _], _ => rfl
  have gDR := PySem.W.mg_of X G aDR
  have bR := FR.binds (ps := ["_law_draws_here", "_law_most"]) fun _ _ _ _ _ _ us hl => match us, hl with | [_, _], _ => rfl
  have gR := PySem.W.mg_of X G aR
  have bLM := FLM.binds (ps := ["_law_one", "_law_other"]) fun _ _ _ _ _ _ us hl => match us, hl with | [_, _], _ => rfl
  have gLM := PySem.W.mg_of X G aLM
  have bT := FT.binds (ps := ["_law_draws_here", "_law_some"]) fun _ _ _ _ _ _ us hl => match us, hl with | [_, _], _ => rfl
  have gT := PySem.W.mg_of X G aT
  have bK := FK.binds (ps := ["_law_thing"]) fun _ _ _ _ _ _ us hl => match us, hl with | [_], _ => rfl
  have gK := PySem.W.mg_of X G aK
  have bTW := FTW.binds (ps := ["_law_draws_here"]) fun _ _ _ _ _ _ us hl => match us, hl with | [_], _ => rfl
  have gTW := PySem.W.mg_of X G aTW
  have bRT := FRT.binds (ps := ["_law_draws_here"]) fun _ _ _ _ _ _ us hl => match us, hl with | [_], _ => rfl
  have gRT := PySem.W.mg_of X G aRT
  have bL := FL.binds (ps := ["_law_script"]) fun _ _ _ _ _ _ us hl => match us, hl with | [_], _ => rfl
  have gL := PySem.W.mg_of X G aL
  have bI := FI.binds (ps := ["self", "index"]) fun _ _ _ _ _ _ us hl => match us, hl with | [_, _], _ => rfl
  have T : Gs mg := ⟨PySem.W.mg_none_of X G z_isi, PySem.W.mg_none_of X G z_int, PySem.W.mg_none_of X G z_bool, PySem.W.mg_none_of X G z_list, PySem.W.mg_none_of X G z_enumr, PySem.W.mg_none_of X G z_all, PySem.W.mg_none_of X G z_range, PySem.W.mg_none_of X G z_sorted, PySem.W.mg_none_of X G z_sum, PySem.W.mg_none_of X G z_len, PySem.W.mg_none_of X G z_repr, PySem.W.mg_none_of X G z_str, PySem.W.mg_none_of X G z_tuple, PySem.W.mg_none_of X G z_verr⟩
  have TE : ExT K mg C fI := ⟨⟨⟨nm, q, N, bs, _, sn, sub, ab, col, dd, m0, m1, m2, m3, m5, xL, by decide +kernel⟩, xsa, xsub, xty, xk⟩, PySem.W.mg_of X G xC, xi, xti, xno, ⟨xg, xgg, xsub, xhd, xha, xhn, xht, xhm⟩, exm_own xsub xic xty xsc, kit_sub xkv⟩
  refine ⟨PySem.W.fnOf "law" "law" (defArgs sLaw) (defBody sLaw) (defScope sLaw) .none kVL dcL pmL anL cdL ctL, fun s v => .of_eq rfl, fun base _ _ => ?_⟩
  have oW := ok_whole (P := P) (w := w) (base := base) FW T
  have oCL := ok_ckl (P := P) (w := w) (base := base) FCL T oW bW kW gW
  have oM := ok_mgd (P := P) (w := w) (mg := mg) (base := base) FM
  have oMG := ok_mg (P := P) (w := w) (base := base) FMG oCL bCL kCL gCL oM bM kM gM
  have oMA := ok_mgda (P := P) (w := w) (base := base) FMA oM bM kM gM
  have oI := ok_ini (P := P) (w := w) (base := base) FI TE
  have oCS := ok_ckls (P := P) (w := w) (base := base) FCS T TE oW bW kW gW oI bI
  have oA := ok_mga (P := P) (w := w) (base := base) FA oCS bCS kCS gCS oMA bMA kMA gMA
  have oD := ok_draws (P := P) (w := w) (base := base) FD T
  have oN := ok_next (P := P) (w := w) (base := base) FN T
  have oDR := ok_drawn (P := P) (w := w) (base := base) FDR T oN bN kN gN
  have oR := ok_row (P := P) (w := w) (base := base) FR T oN bN kN gN
  have oLM := ok_lm (P := P) (w := w) (base := base) FLM T
  have t0 := tree_none (P := P) (w := w) (K := K) (mg := mg) (base := base) (f := fT) (fd := PySem.W.fnOf "_law_by_tree" "_law_by_tree" (defArgs sTree) (defBody sTree) (defScope sTree) .none kVT dcT pmT anT cdT ctT)
  have t1 := tree_step FT T bT gT t0 oN bN kN gN oMG bMG kMG gMG
  have t2 := tree_step FT T bT gT t1 oN bN kN gN oMG bMG kMG gMG
  have t3 := tree_step FT T bT gT t2 oN bN kN gN oMG bMG kMG gMG
  have t4 := tree_step FT T bT gT t3 oN bN kN gN oMG bMG kMG gMG
  have t5 := tree_step FT T bT gT t4 oN bN kN gN oMG bMG kMG gMG
  have t6 := tree_step FT T bT gT t5 oN bN kN gN oMG bMG kMG gMG
  have oK := ok_kept FK T TE oA bA kA gA
  have oTW := ok_twelve FTW T oDR bDR kDR gDR oLM bLM kLM gLM oA bA kA gA
  have oRT := ok_right FRT T oN bN kN gN oDR bDR kDR gDR oR bR kR gR oLM bLM kLM gLM oA bA (kb_mga FA) kA gA t6 bT kT gT oK bK kK gK oTW bTW kTW gTW
  exact ok_law FL T oD bD kD gD oRT bRT kRT gRT
end MU
open PySem PySem.W PyProof.Rows
set_option maxRecDepth 100000 in
set_option maxHeartbeats 0 in
theorem PySem.Challenge.cw_mergeunits_k04_whole_any_tree_of_merges_holds : PySem.Challenge.rw_mergeunits_k04_whole_any_tree_of_merges.Holds := by
  w_on; o_law; k_head; (case hw => w_witness2)
  k_fill
  refine MU.walkG (l := PySem.Challenge.rw_mergeunits_k04_whole_any_tree_of_merges) (n := 63) (k := 11) (x := "_law_script") (sp := fun w => MU.spLaw _) rfl (by decide) rfl ⟨rfl, by decide, by decide⟩ (fun w h Y => PySem.W.kIn_of Y) ?F (fun _ _ a ns _ _ hS => ⟨a, ns, rfl, hS, fun _ => rfl⟩)
  case F =>
    intro w mg fa h KX G hmg
    refine' MU.all_mk KX G hmg ?aW ?lW ?cW ?kW ?aCL ?lCL ?cCL ?kCL ?aCS ?lCS ?cCS ?kCS ?aM ?lM ?cM ?kM ?aMG ?lMG ?cMG ?kMG ?aMA ?lMA ?cMA ?kMA ?aA ?lA ?cA ?kA ?aD ?lD ?cD ?kD ?aN ?lN ?cN ?kN ?aDR ?lDR ?cDR ?kDR ?aR ?lR ?cR ?kR ?aLM ?lLM ?cLM ?kLM ?aT ?lT ?cT ?kT ?aK ?lK ?cK ?kK ?aTW ?lTW ?cTW ?kTW ?aRT ?lRT ?cRT ?kRT ?aL ?lL ?cL ?kL ?z_isi ?z_int ?z_bool ?z_list ?z_enumr ?z_all ?z_range ?z_sorted ?z_sum ?z_len ?z_repr ?z_str ?z_tuple ?z_verr ?xC ?xL ?xsa ?xsub ?xty ?xk ?xi ?xti ?xno ?xg ?xgg ?xhd ?xha ?xhn ?xht ?xhm ?xic ?xsc ?xkv ?lI ?cI ?kI
    (case aW => k_is); (case lW => k_is); (case cW => k_is); (case kW => k_is); (case aCL => k_is); (case lCL => k_is)
    (case cCL => k_is); (case kCL => k_is); (case aCS => k_is); (case lCS => k_is); (case cCS => k_is); (case kCS => k_is)
    (case aM => k_is); (case lM => k_is); (case cM => k_is); (case kM => k_is); (case aMG => k_is); (case lMG => k_is)
    (case cMG => k_is); (case kMG => k_is); (case aMA => k_is); (case lMA => k_is); (case cMA => k_is); (case kMA => k_is)
    (case aA => k_is); (case lA => k_is); (case cA => k_is); (case kA => k_is); (case aD => k_is); (case lD => k_is)
    (case cD => k_is); (case kD => k_is); (case aN => k_is); (case lN => k_is); (case cN => k_is); (case kN => k_is)
    (case aDR => k_is); (case lDR => k_is); (case cDR => k_is); (case kDR => k_is); (case aR => k_is); (case lR => k_is)
    (case cR => k_is); (case kR => k_is); (case aLM => k_is); (case lLM => k_is); (case cLM => k_is); (case kLM => k_is)
    (case aT => k_is); (case lT => k_is); (case cT => k_is); (case kT => k_is); (case aK => k_is); (case lK => k_is)
    (case cK => k_is); (case kK => k_is); (case aTW => k_is); (case lTW => k_is); (case cTW => k_is); (case kTW => k_is)
    (case aRT => k_is); (case lRT => k_is); (case cRT => k_is); (case kRT => k_is); (case aL => k_is); (case lL => k_is)
    (case cL => k_is); (case kL => k_is); (case z_isi => k_is); (case z_int => k_is); (case z_bool => k_is); (case z_list => k_is)
    (case z_enumr => k_is); (case z_all => k_is); (case z_range => k_is); (case z_sorted => k_is); (case z_sum => k_is); (case z_len => k_is)
    (case z_repr => k_is); (case z_str => k_is); (case z_tuple => k_is); (case z_verr => k_is); (case xC => k_is); (case xL => k_is)
    (case xsa => k_is); (case xsub => k_is); (case xty => k_is); (case xk => k_is); (case xi => k_is); (case xti => k_is)
    (case xno => k_is); (case xg => k_is); (case xgg => k_is); (case xhd => k_is); (case xha => k_is); (case xhn => k_is)
    (case xht => k_is); (case xhm => k_is); (case xic => k_is); (case xsc => first | rfl | k_is); (case xkv => k_is); (case lI => k_is)
    (case cI => k_is); (case kI => k_is)
#print axioms PySem.Challenge.cw_mergeunits_k04_whole_any_tree_of_merges_holds
