import PyProof.Rows.All
import Wide.All
import OpenK.AllK
import Wide.FinOn
import KE.KStateDown
import HandS.ForMost
import HandS.Wide
import HandS.Codes
import KE.KExcSuper
import KE.KExcIs
import HandS.ForExc
import HandS.ExcIs
import HandS.ExcSuper
import HandS.ExcValue
import PyProof.ReprRoads
import KE.KDictZip
import HandS.Dict
import HandS.More
import HandS.Iter
import PyProof.ReprLen
import HandS.Walk
import HandS.Flow
import HandS.Words
import HandS.Ends
import HandS.HeadEnd
import KE.KIsAll
import HandS.Head0
import HandS.Head1
import HandS.Head2
import HandS.HeadHook1
import HandS.HeadHook2
import PySem.Challenge.RW_neverstand_k00_errors_keep_any_values
set_option Elab.async false
set_option linter.all false
set_option maxRecDepth 100000
set_option maxHeartbeats 4000000
namespace My
open PySem PySem.Spec PyProof.Rows L2
open C8 (pss_cut tCut)
def top (i : Nat) : Stmt := PySem.Challenge.pw_neverstand_k00_errors_keep_any_values.main.body.getD i (.Pass ⟨0, 0, 0, 0⟩)
abbrev sPen : Stmt := top 21
abbrev sDraw : Stmt := top 22
abbrev sPick : Stmt := top 23
/-- the pen at p: its cells at c, its turn, its rest; b draws are left -/
def Pen (H : Hp) (p c : Addr) (b : Nat) : Prop := ∃ (ns : List Int) (t r : Int), H p = some (.lst [.ref c, .int t, .int r]) ∧ H c = some (.lst (ns.map V.int)) ∧ ns.length ≤ 63 ∧ 0 ≤ t ∧ t + b ≤ 1048576 ∧ 0 ≤ r
theorem Pen.keep {H H' : Hp} {p c : Addr} {b : Nat} (h : Pen H p c b) (k : ∀ a o, H a = some o → H' a = some o) : Pen H' p c b := by
  obtain ⟨ns, t, r, h1, h2, h3⟩ := h
  exact ⟨ns, t, r, k _ _ h1, k _ _ h2, h3⟩
theorem Pen.less {H : Hp} {p c : Addr} {b b' : Nat} (h : Pen H p c b) (hb : b' ≤ b) : Pen H p c b' := by
  obtain ⟨ns, t, r, h1, h2, h3, h4, h5, h6⟩ := h
  exact ⟨ns, t, r, h1, h2, h3, h4, by omega, h6⟩
/-- all but p stays -/
def But (p : Addr) (H H' : Hp) : Prop := ∀ a o, a ≠ p → H a = some o → H' a = some o
def spPen (K : PySem.W.Frag) : Sp := fun vs H Q _ => ∃ (a : Addr) (ns : List Int), vs = [.ref a] ∧ SqL K H a (ns.map V.int) ∧ ns.length ≤ 63 ∧
  ∀ p c H', H p = none → Same H H' → Pen H' p c 1048576 → Q (.ref p) H'
def spDraw : Sp := fun vs H Q _ => ∃ (p c : Addr) (b : Nat) (m : Int), vs = [.ref p, .int m] ∧ Pen H p c (b + 1) ∧ 0 < m ∧ m ≤ 1099511627776 ∧
  ∀ r H', 0 ≤ r → r < m → But p H H' → Pen H' p c b → Q (.int r) H'
/-- what stands for a built-in -/
structure Bl (mg : Str → Option Value) : Prop where
  int : mg "int" = none
  len : mg "len" = none
  abs : mg "abs" = none
section
variable {P : Program} {w : World} {K : PySem.W.Frag} {mg : Str → Option Value} {base : Heap}
theorem scPen : FnScope ["script", "cell"] ["script"] (defScope sPen) := ⟨rfl, rfl, rfl, by decide +kernel, rfl, by decide +kernel, by decide +kernel⟩
theorem ok_pen {f : Addr} {fd : FuncData} (F : Fun K "_law_pen" "_law_pen" sPen f fd) (B : Bl mg) : FnOk P w K mg base CX0 1 f fd ["script"] (spPen K) := by
  refine F.ok scPen (fun vs H Q E h => ?_) (fun cdv A outer s H vs Q E hr h => ?_)
  · obtain ⟨a, ns, rfl, _⟩ := h
    rfl
  · obtain ⟨a, ns, rfl, hS, hl, k⟩ := h
    refine ⟨_, pss_one (ps_ret (pe_lst (pa_cons (pe_lc (own := [("cell", 1)]) (g := gName 1) (tt := tYes) rfl scPen.nd (pi_list (pe_slice sl_list (pv 0) po_none (po_some pe_int)))
      (blkOk_by (N := ["script", "cell"]) (sc := defScope sPen) (by decide +kernel)) (fun _ _ _ _ _ => pg_name (i := 1) scPen.nd rfl (Or.inl rfl)) (fun _ _ _ _ _ => pts_nil)
      (fun _ _ _ _ _ => pe_callTy call_int1 (by rfl) B.int (by decide +kernel) (pa_cons (pv 1) pa_nil))) (pa_cons pe_int (pa_cons pe_int pa_nil))))), ?_⟩
    -- script[:63]
    refine ⟨_, rfl, _, rfl, a, _, rfl, hS, fun q hq => ?_⟩
    have hcut : cutV (ns.map V.int) none (some 63) = ns.map V.int := by
      show ((ns.map V.int).drop 0).take (HT.sIx (ns.map V.int).length (ns.map V.int).length (some ((63 : Nat) : Int)) - 0) = ns.map V.int
      rw [HT.sIx_nat, List.drop_zero, List.length_map]
      exact List.take_of_length_le (by rw [List.length_map]; omega)
    rw [hcut]
    have s0 : Same H (upd H q (.lst (ns.map V.int))) := fun b o e => by rw [upd_ne (ne_of_none e hq)]; exact e
    refine ⟨q, rfl, ⟨_, SqL.of upd_same⟩, ?_⟩
    intro D hD
    have nDq : D ≠ q := fun z => by rw [z, upd_same] at hD; cases hD
    have hD0 : H D = none := by rw [upd_ne nDq] at hD; exact hD
    refine lc_list (K := K) (a := q) (xs := ns.map V.int) (fun i H' => Same H H' ∧ H' q = some (.lst (ns.map V.int)) ∧ H' D = some (.lst ((ns.take i).map V.int))) ?_ (fun i H' _ h => SqL.of h.2.1) ?_ ?_
    · refine ⟨fun b o e => ?_, ?_, upd_same⟩
      · rw [upd_ne (ne_of_none e hD0)]
        exact s0 _ _ e
      · rw [upd_ne nDq.symm, upd_same]
    · rintro i y H' hi ⟨s1, h1, h2⟩
      have hil : i < ns.length := by
        have z := (List.getElem?_eq_some_iff.mp hi).1
        rw [List.length_map] at z
        exact z
      have ey : y = V.int ns[i] := by
        rw [List.getElem?_map, List.getElem?_eq_getElem hil] at hi
        exact (Option.some.inj hi).symm
      subst ey
      refine ⟨rfl, ?_⟩
      simp only [tYes, if_true]
      refine ⟨_, rfl, .inl ⟨_, rfl, ?_⟩⟩
      refine ⟨_, h2, ?_, fun b o e => ?_, ?_, ?_⟩
      · rw [List.length_map, List.length_take]
        exact Nat.lt_of_le_of_lt (Nat.min_le_left _ _) (small1000 (by omega))
      · rw [upd_ne (ne_of_none e hD0)]
        exact s1 _ _ e
      · rw [upd_ne nDq.symm]
        exact h1
      · rw [upd_same, List.take_succ_eq_append_getElem hil, List.map_append]
        rfl
    · rintro H' ⟨s1, h1, h2⟩
      rw [List.length_map, List.take_length] at h2
      refine ⟨by show 3 ≤ sizeLine; decide, fun p hp => ?_⟩
      have nD : D ≠ p := ne_of_none h2 hp
      refine k p D _ (s1.free hp) (fun b o e => ?_) ⟨ns, 0, 0, upd_same, ?_, hl, by omega, by omega, by omega⟩
      · rw [upd_ne (ne_of_none (s1 _ _ e) hp)]
        exact s1 _ _ e
      · rw [upd_ne nD]
        exact h2

theorem dlt {m : Int} (h0 : 0 < m) (h : m ≤ 1099511627776) (i : Int) : CDivW i m := wide_div (b := 41) h0 (by omega) (by decide) (by decide)
theorem dmul {k : Int} {i j : Int} (h : -(2 ^ 64) < i ∧ i < 2 ^ 64) : CMul i j := .inl h
theorem dpAll_ints {K : PySem.W.Frag} {H : Hp} : ∀ ns : List Int, DpAll K H (ns.map V.int) (ns.map PyData.int)
  | [] => .nil
  | n :: ns => .cons (.int n) (dpAll_ints ns)
theorem scDraw : FnScope ["pen", "many", "rest", "turn", "cell", "mixed"] ["pen", "many"] (defScope sDraw) := ⟨rfl, rfl, rfl, by decide +kernel, rfl, by decide +kernel, by decide +kernel⟩
theorem ok_draw {f : Addr} {fd : FuncData} (F : Fun K "_law_draw" "_law_draw" sDraw f fd) (B : Bl mg) : FnOk P w K mg base CX0 1 f fd ["pen", "many"] spDraw := by
  refine F.ok scDraw (fun vs H Q E h => ?_) (fun cdv A outer s H vs Q E hr h => ?_)
  · obtain ⟨p, c, b, m, rfl, _⟩ := h
    rfl
  · obtain ⟨p, c, b, m, rfl, ⟨ns, t, r, hp, hc, hl, t0, tb, r0⟩, m0, m1, k⟩ := h
    have hu := hu_of hr
    refine ⟨_, (pss_cons (ps_if (pt_cmpR op_gt (pe_ix ix_list (pv 0) pe_int (fun _ _ => rfl)) pe_int (nomark _)) (pss_cons (ps_set (i := 2) scDraw.nd rfl (Or.inl rfl) (pe_callTy call_int1 (by rfl) B.int (by decide +kernel) (pa_cons (pe_ix ix_list (pv 0) pe_int (fun _ _ => rfl)) pa_nil)))
      (pss_cons (ps_asg (pe_op op_fdivW (pv 2) (pv 1)) (pg_sub (pv 0) pe_int set_list))
      (pss_one (ps_ret (pe_op op_mod (pe_callTy call_int1 (by rfl) B.int (by decide +kernel) (pa_cons (pv 2) pa_nil)) (pv 1)))))) pss_nil)
      (pss_cons (ps_set (i := 3) scDraw.nd rfl (Or.inl rfl) (pe_ix ix_list (pv 0) pe_int (fun _ _ => rfl)))
      (pss_cons (ps_asg (pe_op op_add (pv 3) pe_int) (pg_sub (pv 0) pe_int set_list))
      (pss_cons (ps_set (i := 4) scDraw.nd rfl (Or.inl rfl) (pe_op op_add (pe_op op_mul pe_int (pv 3)) pe_int))
      (pss_cut (ps_if (pt_cmpR (op_neD hr.units) (pe_ix ix_list (pv 0) pe_int (fun _ _ => rfl)) (pe_lst pa_nil) (nomark _)) (pss_one (ps_set (i := 4) scDraw.nd rfl (Or.inl rfl) (pe_ix ix_list (pe_ix ix_list (pv 0) pe_int (fun _ _ => rfl)) (pe_op op_mod (pe_callTy call_int1 (by rfl) B.int (by decide +kernel) (pa_cons (pv 3) pa_nil)) (pe_callB call_len_seq (by rfl) B.len (by decide +kernel) (pa_cons (pe_ix ix_list (pv 0) pe_int (fun _ _ => rfl)) pa_nil))) (fun _ _ => rfl)))) pss_nil)
      (pss_cut (ps_if (PW.pt (pw_and (pt_cmpR op_lt (pv 3) (pe_callB call_len_seq (by rfl) B.len (by decide +kernel) (pa_cons (pe_ix ix_list (pv 0) pe_int (fun _ _ => rfl)) pa_nil)) (nomark _)) (pw_and1 (pt_cmpR op_ge (pe_callB call_abs (by rfl) B.abs (by decide +kernel) (pa_cons (pv 4) pa_nil)) (pe_op op_pow pe_int pe_int) (nomark _))))) (pss_cons (ps_set (i := 2) scDraw.nd rfl (Or.inl rfl) (pe_op op_add (pe_op op_mul pe_int (pe_op op_sub (pe_callB call_abs (by rfl) B.abs (by decide +kernel) (pa_cons (pv 4) pa_nil)) (pe_op op_pow pe_int pe_int))) (pe_callTy call_int1 (by rfl) B.int (by decide +kernel) (pa_cons (pe_cmpR op_lt (pv 4) pe_int (nomark _)) pa_nil))))
      (pss_cons (ps_asg (pe_op op_fdivW (pe_callTy call_int1 (by rfl) B.int (by decide +kernel) (pa_cons (pv 2) pa_nil)) (pv 1)) (pg_sub (pv 0) pe_int set_list))
      (pss_one (ps_ret (pe_op op_mod (pe_callTy call_int1 (by rfl) B.int (by decide +kernel) (pa_cons (pv 2) pa_nil)) (pv 1)))))) pss_nil)
      (pss_cons (ps_set (i := 5) scDraw.nd rfl (Or.inl rfl) (pe_op op_mod (pe_callTy call_int1 (by rfl) B.int (by decide +kernel) (pa_cons (pe_op op_pow (pe_op op_add (pe_op op_add (pe_op op_mod (pe_callTy call_int1 (by rfl) B.int (by decide +kernel) (pa_cons (pv 4) pa_nil)) pe_int) (pe_op op_mul pe_int (pv 3))) pe_int) pe_int) pa_nil)) pe_int))
      (pss_cons (ps_set (i := 5) scDraw.nd rfl (Or.inl rfl) (pe_op op_mod (pe_callTy call_int1 (by rfl) B.int (by decide +kernel) (pa_cons (pe_op op_pow (pe_op op_add (pe_op op_add (pe_op op_mul (pv 5) (pe_op op_add (pe_op op_mul pe_int (pv 3)) pe_int)) (pe_op op_mul (pe_op op_mul pe_int (pv 3)) (pv 3))) pe_int) pe_int) pa_nil)) pe_int))
      (pss_one (ps_ret (pe_op op_mod (pe_callTy call_int1 (by rfl) B.int (by decide +kernel) (pa_cons (pe_op op_fdiv (pv 5) pe_int) pa_nil)) (pv 1)))))))))))), ?_⟩
    have hS := SqL.of (K := K) hp
    have ncp : c ≠ p := by
      intro z
      rw [z, hp] at hc
      have e := congrArg List.length (HO.lst.inj (Option.some.inj hc))
      cases ns with
      | nil => cases e
      | cons n ns => cases (HO.lst.inj (Option.some.inj hc))
    have a2 : ∀ x y z : V, atI [x, y, z] 2 = some z := fun _ _ _ => rfl
    have a1 : ∀ x y z : V, atI [x, y, z] 1 = some y := fun _ _ _ => rfl
    have a0 : ∀ x y z : V, atI [x, y, z] 0 = some x := fun _ _ _ => rfl
    have i2 : ∀ x y z : V, ixN [x, y, z].length 2 = some 2 := fun _ _ _ => rfl
    have i1 : ∀ x y z : V, ixN [x, y, z].length 1 = some 1 := fun _ _ _ => rfl
    have md : ∀ x : Int, 0 ≤ x % m ∧ x % m < m := fun x => ⟨Int.emod_nonneg _ (by omega), Int.emod_lt_of_pos _ m0⟩
    refine ⟨_, rfl, p, _, _, _, rfl, rfl, hS, a2 _ _ _, _, _, rfl, rfl, _, rfl, ?_⟩
    refine ite2 (fun _ => ?_) (fun _ => ?_)
    · refine ⟨_, rfl, p, _, _, _, rfl, rfl, hS, a2 _ _ _, .inl ⟨_, rfl, ?_⟩⟩
      refine ⟨_, rfl, _, rfl, _, _, rfl, rfl, dlt m0 m1 _, _, rfl, p, _, _, _, rfl, rfl, hp, i2 _ _ _, ?_⟩
      refine ⟨_, rfl, .inl ⟨_, rfl, _, rfl, _, _, rfl, rfl, m0, ?_⟩⟩
      refine k _ _ (md _).1 (md _).2 (fun a o ha e => by rw [upd_ne ha]; exact e) ⟨ns, t, r / m, upd_same, by rw [upd_ne ncp]; exact hc, hl, t0, by omega, Int.ediv_nonneg r0 (by omega)⟩
    -- turn = pen[1]; pen[1] = turn + 1; cell = 82619 * turn + 12653
    refine ⟨_, rfl, p, _, _, _, rfl, rfl, hS, a1 _ _ _, ?_⟩
    refine ⟨_, rfl, _, _, rfl, rfl, _, rfl, p, _, _, _, rfl, rfl, hp, i1 _ _ _, ?_⟩
    refine ⟨_, rfl, _, _, rfl, rfl, .inl (by constructor <;> decide), _, _, rfl, rfl, ?_⟩
    have hq : ∀ o, upd H p o c = some (.lst (ns.map V.int)) := fun o => by rw [upd_ne ncp]; exact hc
    have hS1 : SqL K (upd H p (.lst [V.ref c, V.int (t + 1), V.int r])) p [V.ref c, V.int (t + 1), V.int r] := SqL.of upd_same
    -- behind the if: the cell is some int
    refine ⟨fun σ' H' => ∃ z : Int, σ' = [some (.ref p), some (.int m), none, some (.int t), some (.int z), none] ∧ But p H H' ∧ H' p = some (.lst [V.ref c, V.int (t + 1), V.int r]) ∧ H' c = some (.lst (ns.map V.int)), ?_, ?_⟩
    · refine ⟨_, rfl, p, _, _, _, rfl, rfl, hS1, a0 _ _ _, ?_⟩
      refine ⟨by show 0 ≤ sizeLine; decide, fun q hq0 => ?_⟩
      have hq1 : upd H p (.lst [V.ref c, V.int (t + 1), V.int r]) q = none := hq0
      have npq : p ≠ q := fun z => by rw [← z, upd_same] at hq1; cases hq1
      have hHq : H q = none := by rw [upd_ne npq.symm] at hq1; exact hq1
      have ncq : c ≠ q := ne_of_none hc hHq
      have e2 : upd (upd H p (.lst [V.ref c, V.int (t + 1), V.int r])) q (.lst []) p = some (.lst [V.ref c, V.int (t + 1), V.int r]) := by rw [upd_ne npq, upd_same]
      have e3 : upd (upd H p (.lst [V.ref c, V.int (t + 1), V.int r])) q (.lst []) c = some (.lst (ns.map V.int)) := by rw [upd_ne ncq, upd_ne ncp]; exact hc
      have bt : But p H (upd (upd H p (.lst [V.ref c, V.int (t + 1), V.int r])) q (.lst [])) := fun a o ha e => by
        rw [upd_ne (ne_of_none e hHq), upd_ne ha]
        exact e
      refine ⟨.list (ns.map PyData.int), .list [], Dp.lst (SqL.of e3) (dpAll_ints _), Dp.lst (SqL.of upd_same) .nil, PySem.W.ke_shaped_ints ns, by rfl, _, rfl, ?_⟩
      cases hns : ns with
      | nil =>
        refine ite2 (fun z => ?_) (fun _ => ?_)
        · exact absurd z (by decide)
        · exact ⟨_, rfl, bt, e2, by rw [← hns]; exact e3⟩
      | cons n0 nr =>
        refine ite2 (fun _ => ?_) (fun z => ?_)
        · have hS2 : SqL K (upd (upd H p (.lst [V.ref c, V.int (t + 1), V.int r])) q (.lst [])) p [V.ref c, V.int (t + 1), V.int r] := SqL.of e2
          refine ⟨_, rfl, p, _, _, _, rfl, rfl, hS2, a0 _ _ _, ?_⟩
          refine ⟨_, rfl, .inl ⟨_, rfl, ?_⟩⟩
          refine ⟨_, rfl, p, _, _, _, rfl, rfl, hS2, a0 _ _ _, ?_⟩
          refine ⟨c, _, rfl, .inl (SqL.of e3), ?_⟩
          have lp : 0 < (ns.map V.int).length := by rw [hns]; exact Nat.succ_pos _
          refine ⟨_, _, rfl, rfl, (by show (0 : Int) < ((ns.map V.int).length : Int); omega), ?_⟩
          have g1 : 0 ≤ t % ((ns.map V.int).length : Int) := Int.emod_nonneg _ (by omega)
          have g2 : t % ((ns.map V.int).length : Int) < ((ns.map V.int).length : Int) := Int.emod_lt_of_pos _ (by omega)
          have g3 : (t % ((ns.map V.int).length : Int)).toNat < ns.length := by rw [List.length_map] at g2 g1 ⊢; omega
          refine ⟨c, _, _, V.int ns[(t % ((ns.map V.int).length : Int)).toNat], rfl, rfl, SqL.of e3, ?_, ?_⟩
          · refine at_of (j := (t % ((ns.map V.int).length : Int)).toNat) (by omega) ?_
            rw [List.getElem?_map, List.getElem?_eq_getElem g3]
            rfl
          · exact ⟨_, rfl, bt, e2, by rw [← hns]; exact e3⟩
        · exact absurd (show (!PyData.eqv (.list ((n0 :: nr).map PyData.int)) (.list [])) = true from rfl) z
    · rintro σ' H' ⟨z, rfl, bt, e2, e3⟩
      have hS3 : SqL K H' p [V.ref c, V.int (t + 1), V.int r] := SqL.of e2
      have pend : ∀ (r' : Int) (H2 : Hp), 0 ≤ r' → H2 = upd H' p (.lst [V.ref c, V.int (t + 1), V.int r']) → But p H H2 ∧ Pen H2 p c b := fun r' H2 h0 e => by
        refine ⟨fun a o ha q => ?_, ns, t + 1, r', by rw [e, upd_same], by rw [e, upd_ne ncp]; exact e3, hl, by omega, by omega, h0⟩
        rw [e, upd_ne ha]
        exact bt a o ha q
      -- if turn < len(pen[0]) and abs(cell) >= 10 ** 18
      refine ⟨fun σ2 H2 => σ2 = [some (.ref p), some (.int m), none, some (.int t), some (.int z), none] ∧ H2 = H', ?_, ?_⟩
      rotate_left
      · rintro σ2 H2 ⟨rfl, rfl⟩
        have t1 : t ≤ 1048576 := by omega
        have z0 : 0 ≤ z % 2147483563 := Int.emod_nonneg _ (by decide)
        have z1 : z % 2147483563 < 2147483563 := Int.emod_lt_of_pos _ (by decide)
        refine ⟨_, rfl, .inl ⟨_, rfl, _, _, rfl, rfl, (by show (0 : Int) < 2147483563; decide), _, rfl, _, _, rfl, rfl, .inl (by constructor <;> decide), _, _, rfl, rfl, _, _, rfl, rfl, _, _, rfl, rfl, ⟨by decide, by decide, ?_⟩, .inl ⟨_, rfl, _, _, rfl, rfl, (by show (0 : Int) < 2147483629; decide), ?_⟩⟩⟩
        · show (z % 2147483563 + 82619 * t + 12653).natAbs < 2 ^ 64
          omega
        generalize ((z % 2147483563 + 82619 * t + 12653) ^ (5 : Int).toNat) = y
        have y0 : 0 ≤ y % 2147483629 := Int.emod_nonneg _ (by decide)
        have y1 : y % 2147483629 < 2147483629 := Int.emod_lt_of_pos _ (by decide)
        refine ⟨_, rfl, _, rfl, _, _, rfl, rfl, .inl (by constructor <;> decide), _, _, rfl, rfl, _, _, rfl, rfl, .inl ⟨?_, ?_⟩, _, rfl, _, _, rfl, rfl, .inl (by constructor <;> decide), _, rfl, _, _, rfl, rfl, .inl ⟨?_, ?_⟩, _, _, rfl, rfl, _, _, rfl, rfl, _, _, rfl, rfl, ⟨by decide, by decide, ?_⟩, .inl ⟨_, rfl, _, _, rfl, rfl, (by show (0 : Int) < 2147483587; decide), ?_⟩⟩
        · show -(2 ^ 64) < y % 2147483629
          omega
        · show y % 2147483629 < 2 ^ 64
          omega
        · show -(2 ^ 64) < 41017 * t
          omega
        · show 41017 * t < 2 ^ 64
          omega
        · show (y % 2147483629 * (2 * t + 6571) + 41017 * t * t + 82619).natAbs < 2 ^ 64
          have b1 : y % 2147483629 * (2 * t + 6571) ≤ 2147483629 * 2103723 := Int.mul_le_mul (by omega) (by omega) (by omega) (by decide)
          have b0 : 0 ≤ y % 2147483629 * (2 * t + 6571) := Int.mul_nonneg y0 (by omega)
          have c1 : 41017 * t * t ≤ (41017 * 1048576) * 1048576 := Int.mul_le_mul (by omega) t1 t0 (by decide)
          have c0 : 0 ≤ 41017 * t * t := Int.mul_nonneg (by omega) t0
          omega
        generalize ((y % 2147483629 * (2 * t + 6571) + 41017 * t * t + 82619) ^ (3 : Int).toNat) = x
        refine ⟨_, rfl, _, _, rfl, rfl, ⟨by decide, by decide⟩, .inl ⟨_, rfl, _, rfl, _, _, rfl, rfl, m0, ?_⟩⟩
        exact k _ _ (md _).1 (md _).2 bt ⟨ns, t + 1, r, e2, e3, hl, by omega, by omega, r0⟩
      have hlenL : ((ns.map V.int).length : Int) = (ns.length : Int) := by rw [List.length_map]
      refine ⟨_, rfl, _, rfl, p, _, _, _, rfl, rfl, hS3, a0 _ _ _, c, _, rfl, .inl (SqL.of e3), _, _, rfl, rfl, _, rfl, ?_⟩
      refine ite2 (fun _ => ?_) (fun _ => ?_)
      · refine ⟨_, rfl, _, rfl, _, _, rfl, rfl, ⟨by decide, by decide, by decide⟩, _, _, rfl, rfl, _, rfl, ?_⟩
        refine ite2 (fun hge => ?_) (fun _ => ?_)
        · have hge2 : (1000000000000000000 : Int) ≤ (if z < 0 then -z else z) := of_decide_eq_true hge
          refine ⟨_, rfl, _, rfl, _, _, rfl, rfl, ⟨by decide, by decide, by decide⟩, _, _, rfl, rfl, _, _, rfl, rfl, .inl (by constructor <;> decide), ?_⟩
          refine ⟨_, rfl, _, _, rfl, rfl, .inr ⟨_, rfl, ?_⟩⟩
          refine ⟨_, _, rfl, rfl, ?_⟩
          have hx : 0 ≤ 2 * ((if z < 0 then -z else z) - (10 : Int) ^ (18 : Int).toNat) + (if decide (z < 0) = true then 1 else 0) := by
            have e : (10 : Int) ^ (18 : Int).toNat = 1000000000000000000 := by decide
            rw [e]
            split <;> split <;> omega
          refine ⟨_, rfl, .inl ⟨_, rfl, ?_⟩⟩
          refine ⟨_, rfl, _, _, rfl, rfl, dlt m0 m1 _, _, rfl, p, _, _, _, rfl, rfl, e2, i2 _ _ _, ?_⟩
          obtain ⟨k1, k2⟩ := pend _ _ (Int.ediv_nonneg hx (show (0 : Int) ≤ m by omega)) rfl
          refine ⟨_, rfl, .inl ⟨_, rfl, _, rfl, _, _, rfl, rfl, m0, ?_⟩⟩
          exact k _ _ (md _).1 (md _).2 k1 k2
        · exact ⟨rfl, rfl⟩
      · exact ⟨rfl, rfl⟩
end
end My

/-! Own errors whose __init__ hands its arguments to super() and keeps them in attributes. -/
namespace Exo
open PySem PySem.W PySem.Calls PyProof.Rows PySem.HandSPX
/-! ### the text of such an __init__ -/
def xArg (x : Str) (p : Pos) : Arg := { arg := x, annotation := none, pos := p }
def xA (as : List Arg) : Arguments := { posonlyargs := [], args := as, vararg := none, kwonlyargs := [], kw_defaults := [], kwarg := none, defaults := [] }
def xSup (as : List Expr) (q1 q2 q3 q4 q5 : Pos) : Stmt := .Expr (.Call (.Attribute (.Call (.Name "super" q1) [] [] q2) "__init__" q3) as [] q4) q5
def xSet (x : Str) (q1 q2 q3 q4 : Pos) : Stmt := .Assign [.Attribute (.Name "self" q1) x q2] (.Name x q3) q4
def xS (ns : List Str) : Scope := { kind := .function, names := (("self" : Str), NameKind.local) :: (ns.map (fun x => (x, NameKind.local)) ++ ([(PySem.Str.ofString "__class__", NameKind.free), (PySem.Str.ofString "super", NameKind.globalImplicit)] : List (Str × NameKind))), isGenerator := false, isCoroutine := false, more := [] }
/-- what the written part says of the class at C and of its __init__ at fI, whose parameters (behind self) and attributes are ns -/
structure Xc (prog : Program) (K : Frag) (qual : Str) (ns : List Str) (params : Arguments) (body : List Stmt) (C fI : Addr) (fd : FuncData) : Prop where
  ini : excInitIn K C [.type "ValueError", .type "Exception", .type "BaseException", .type "object"] "ValueError.__new__" = true
  cls : ∃ cd, clsIn K C = some cd ∧ refsVE cd.mro = true ∧ cd.hasDict = true
  sa : findIn K (.ref C) "__setattr__" = some (some (.builtin "object.__setattr__"))
  iC : findIn K (.ref C) "__init__" = some (some (.ref fI))
  sup : ks_superIn K C C "__init__" = some (some (.builtin "ValueError.__init__"))
  subV : subIn K (.ref C) (.type "ValueError") = some true
  own : mroIn K C (.ref C) = some true
  tp : nsIn K cStatics "thirdparty.any" = some none
  noN : ∀ x ∈ ns, findIn K (.ref C) x = some none
  hd : ∃ ar, (params.posonlyargs ++ params.args).head? = some ar ∧ ar.arg = "self"
  fn : ∃ (od : Option Addr) (kV doc pm : Value) (an : Option Addr) (ct : Value) (cc cda : Addr) (osl : Array (Option Value)) (vs : Array Value) (file : Str) (tf : Tok) (ccl cl : Value) (cdd cld : Option Addr) (ccs csl : Array (Option Value)),
    fd = ksFn "__init__" qual params body (xS ns) .none kV doc pm an (.ref cda) ct cc ∧ K.lookup fI = some ⟨.type "function", od, .func fd, osl⟩ ∧ codeIn K (.ref cda) qual = true ∧
    K.lookup cda = some ⟨ccl, cdd, .fields vs, ccs⟩ ∧ vs[2]? = some (.str file tf) ∧ ((prog.main.file : Str) == file) = true ∧ K.lookup cc = some ⟨cl, cld, .cell (some (.ref C)), csl⟩
theorem Xc.binds {prog : Program} {K : Frag} {qual : Str} {ns : List Str} {params : Arguments} {body : List Stmt} {C fI : Addr} {fd : FuncData} (T : Xc prog K qual ns params body C fI fd) {args : Args} {bs : List (Str × Value)} {s : Shared}
    (h : ∀ (kV doc pm : Value) (an : Option Addr) (ct : Value) (cc cda : Addr), bindArgs (ksFn "__init__" qual params body (xS ns) .none kV doc pm an (.ref cda) ct cc) args = pure bs) : BindsTo s fd args bs := by
  obtain ⟨od, kV, doc, pm, an, ct, cc, cda, osl, vs, file, tf, ccl, cl, cdd, cld, ccs, csl, rfl, _⟩ := T.fn
  exact .of_eq (h kV doc pm an ct cc cda)
theorem kept_but {K : Frag} {h h' : Heap} {x : Addr} (X : K.In h) (hx : K.lookup x = none) (k : ∀ b o, b ≠ x → h.get? b = some o → h'.get? b = some o) : K.In h' := fun a o e =>
  k a o (fun z => by rw [z, hx] at e; cases e) (X a o e)
/-- what __init__ leaves of a fresh error at x: its own dict at dx holds m -/
structure Left (h h' : Heap) (x C dx : Addr) (m : Str → Option Value) (ns : List Str) : Prop where
  keep : ∀ b o, b ≠ x → h.get? b = some o → h'.get? b = some o
  obj : ∃ t, h'.get? x = some { cls := .ref C, dict := some dx, data := .fields #[.ref t, .none, .none, .none, .bool false, .none] }
  dbig : h.objs.size ≤ dx
  dne : dx ≠ x
  dict : h'.Ns1 dx m
  within : Within m ns
section
variable {prog : Program} {w : World} {A : Around} {E : Value → Shared → Prop} {R : Result → Shared → Prop} {K : Frag} {mg : Str → Option Value} {C fI : Addr} {qual : Str} {ns : List Str} {params : Arguments} {body : List Stmt} {fd : FuncData}
variable {h : Heap} {g : Array GenState} {d : Drawn} {t : Nat} {os : OsState}
/-- a second attribute: the dict is there -/
theorem osa_more {name : Str} {tk : Tok} {v : Value} {x dx : Addr} {fv : Array Value} {cd : ClassData} {m0 : Str → Option Value} {nl : List Str}
    (X : K.In h) (hx : h.get? x = some { cls := .ref C, dict := some dx, data := .fields fv }) (hns : h.Ns1 dx m0) (hw : Within m0 nl) (hz : nl.length ≤ 1000) (hcd : clsIn K C = some cd) (hm : refsVE cd.mro = true) (hh : cd.hasDict = true)
    (ha : findIn K (.ref C) name = some none)
    (hq : ∀ h' tk', (∀ b o, b ≠ dx → h.get? b = some o → h'.get? b = some o) → h'.Ns1 dx (fun y => if y = name then some v else m0 y) → R (.ok (.ret .none)) ⟨h', g, d, tk', os⟩) :
    codeAny (model prog w) A (.call (.builtin "object.__setattr__") ⟨[.ref x, .str name tk, v], []⟩) R ⟨h, g, d, t, os⟩ := by
  obtain ⟨oD, esD, epD, hoD, hdD, _⟩ := hns.count hw
  have I : InstAt h x { cls := .ref C, dict := some dx, data := .fields fv } C (some oD) := ⟨hx, rfl, rfl, hoD⟩
  have SF := F.store_object
  have ne := refsVE_ne hm
  have hob : cd.mro.contains (.type "object") = true := (refsVE_contains "object" _ hm).trans (by decide +kernel)
  have sub : Looks (model prog w) h (isInstance (.ref x) (.type "object")) true := I.type.andThen (looks_mroIn X (by unfold mroIn; rw [hcd, Option.bind_some, if_neg (by rw [ne]; decide), hob]))
  refine codeAny_call_builtin SF.slot.plain SF.entry (@check_slot (model prog w) _ _ ⟨h, g, d, t, os⟩ "object.__setattr__" "object" "__setattr__" (.ref x) [.str name tk, v] [] _ SF.kind SF.split sub (SF.args (.ref x) (.str name tk) v) ?_)
  have hmr : Looks (model prog w) h (mroOf (.ref C)) cd.mro := (looks_clsIn X hcd).andThen .now
  have L3 : Looks (model prog w) h (Builtin.ObjectAttr.storeTaker? none) none := .now
  have hcls : Looks (model prog w) h (classData C) cd := looks_clsIn X hcd
  rw [osa_eq, refuse_eq]
  refine wpAny_bind (wpAny_bind (I.type.at (wpAny_bind (hmr.at ?_))))
  rw [refsVE_pass _ _ hm]
  refine wpAny_pure (wpAny_bind (I.type.at (wpAny_bind ((looks_findIn X ha).at (wpAny_bind (L3.at ?_))))))
  show wpAny _ _ (Builtin.ObjectAttr.storeInOwnDict (.ref x) (.ref C) (.str name tk) name v false) _ _ _
  obtain ⟨nm, bs, mro, nsp, qn, hd, sn, sb, ab, col, del⟩ := cd
  dsimp only at hh
  subst hh
  unfold Builtin.ObjectAttr.storeInOwnDict Builtin.ObjectAttr.ownDictForStores
  repeat (first | with_reducible refine ESX.store_in_old hns hw hz ?_ | with_reducible refine wpAny_loadPart_at hx ?_ | with_reducible refine hcls.at ?_ | wp_step)
  intro h' tk' hn' hs
  exact hq h' tk' (fun b o hb ho => (hs.2 b hb).trans ho) hn'

/-- ValueError.__init__ bound to x, called: the args are laid anew -/
theorem call_mw {x t0 u : Addr} {us : List Value} {Q : Value → Shared → Prop} (X : K.In h) (q : excInitIn K C [.type "ValueError", .type "Exception", .type "BaseException", .type "object"] "ValueError.__new__" = true)
    (hu : h.get? u = some (kxs_mw "ValueError.__init__" x)) (hx : h.get? x = some (excO C t0)) (hz : us.length ≤ sizeLine)
    (hq : ∀ h', (∀ b o, b ≠ x → h.get? b = some o → h'.get? b = some o) → (∃ t1, h'.get? x = some (excO C t1)) → Q .none ⟨h', g, d, t, os⟩) :
    wpAny (model prog w) A (call (.ref u) us) Q E ⟨h, g, d, t, os⟩ := by
  obtain ⟨nm, N', qn, bs, bm, hdct, sn, sub, ab, col, dd, k0, k1, k2, k3, k5, hC, hT⟩ := excInit_of X q
  refine wpAny_call (codeAny_of_tree ?_)
  show wpAny _ A.in1 (callAny (.ref u) ⟨us, []⟩) _ _ _
  simp only [callAny]
  refine wpAny_bind (wpAny_load hu ?_)
  have eW : (Value.type "method-wrapper" == Value.type "method" || Value.type "method-wrapper" == Value.type "builtin_function_or_method" || Value.type "method-wrapper" == Value.type "method-wrapper") = true := by decide
  simp only [kxs_mw, eW, if_true]
  refine KFB.if_so (by decide) ?_
  refine wpAny_bind (check_bound_init F.excBase_ValueError.toExcCallFacts hC hx rfl ?_)
  refine wpAny_bind (wpAny_pure (wpAny_pure ?_))
  refine ⟨plainId_quiet F.excBase_ValueError.init.plain _, codeAny_builtin F.excBase_ValueError.initEntry ?_⟩
  exact exc_init_tree (cls := .ref C) (t0 := t0) (dv := none) (c2 := .none) (c3 := .none) (b4 := .bool false) hx hz fun h' k' e' _ => hq h' k' ⟨_, e'⟩
/-- super().__init__(..) -/
theorem sup_node {cc cda L : Addr} {env : Env} {fd : FuncData} {ar : Arg} {m : Str → Option Value} {x t0 : Addr} {od cdd cld : Option Addr} {osl ccs csl : Array (Option Value)} {oc ccl cl : Value} {vs : Array Value} {file : Str} {tf : Tok} {mb : Str → Option Value}
    {q1 q2 q3 q4 : Pos} {args : List Expr} {us : List Value} {pl : Sem Bool} {Q : Value → Shared → Prop} (T : Xc prog K qual ns params body C fI fd) (X : K.In h) (hg : h.Ns mainGlobals mg) (hb : h.Ns builtinsNs mb) (hbb : mb "super" = some (.type "super")) (hms : mg "super" = none)
    (he : env = ksEnv qual (xS ns) L fI (.ref cda) cc) (k1 : (xS ns).names.lookup ("super" : Str) = some .globalImplicit) (k2 : (xS ns).names.lookup ("__class__" : Str) = some .free) (k3 : (xS ns).names.lookup ("self" : Str) = some .local)
    (hf : K.lookup fI = some ⟨oc, od, .func fd, osl⟩) (hp : (fd.params.posonlyargs ++ fd.params.args).head? = some ar) (har : ar.arg = "self") (hn : h.Ns L m) (hv : m "self" = some (.ref x)) (hx : h.get? x = some (excO C t0))
    (hcode : K.lookup cda = some ⟨ccl, cdd, .fields vs, ccs⟩) (hvs : vs[2]? = some (.str file tf)) (hfile : ((prog.main.file : Str) == file) = true) (hcell : K.lookup cc = some ⟨cl, cld, .cell (some (.ref C)), csl⟩)
    (htop : (prog.main.scope.names.lookup ("super" : Str)).isSome = false) (hxC : x ≠ C) (hz : us.length ≤ sizeLine)
    (hform : eval (.Call (.Attribute (.Call (.Name "super" q1) [] [] q2) "__init__" q3) args [] q4) env = (do
      let ov ← attributeBase (.Call (.Name "super" q1) [] [] q2) "__init__" env (eval (.Call (.Name "super" q1) [] [] q2) env)
      standAt q3.atName
      let (f, first) ← holding [ov] (getMethod ov "__init__" pl)
      callWith q4 f first (backTo q4 (starEach args env)) []))
    (hargs : ∀ (h1 : Heap) (t1 : Nat) (u : Addr) (R' : Args → Shared → Prop), (∀ b o, h.get? b = some o → h1.get? b = some o) → R' ⟨us, []⟩ ⟨h1, g, d, t1, os⟩ → wpAny (model prog w) A (evalArgs (.ref u) true (backTo q4 (starEach args env)) []) R' E ⟨h1, g, d, t1, os⟩)
    (hpl : (backTo q4 (starEach args env)).any (·.1) = false)
    (hq : ∀ h' t', (∀ b o, b ≠ x → h.get? b = some o → h'.get? b = some o) → (∃ t1, h'.get? x = some (excO C t1)) → Q .none ⟨h', g, d, t', os⟩) :
    _root_.PySem.wpAt (model prog w) A (.func body env) (eval (.Call (.Attribute (.Call (.Name "super" q1) [] [] q2) "__init__" q3) args [] q4) env) Q E ⟨h, g, d, t, os⟩ := by
  obtain ⟨cd, hcd, hm, hh⟩ := T.cls
  obtain ⟨oC, hC1, hC2⟩ : ∃ oC, h.get? C = some oC ∧ oC.data = .cls cd := by
    have hcd' := hcd
    unfold clsIn at hcd'
    split at hcd'
    · rename_i c1 d1 cd1 sl1 ho
      cases hcd'
      exact ⟨_, X _ _ ho, rfl⟩
    · cases hcd'
  have hal : alongIn K "__init__" ((cd.mro.dropWhile (· != .ref C)).drop 1) = some (some (.builtin "ValueError.__init__")) := by
    have z := T.sup
    unfold ks_superIn at z
    rw [hcd] at z
    exact z
  subst he
  refine ks_wpAt_MethodCall (pl := pl) ?_ hform
  refine ks_wpAt_super_base (env := ksEnv qual (xS ns) L fI (.ref cda) cc) k1 k2 (by decide) rfl (X _ _ hf) rfl hp rfl (X _ _ hcode) rfl hvs hfile htop ?_
  refine ks_loadName_global rfl k1 (loadGlobal_builtin (env := ksEnv qual (xS ns) L fI (.ref cda) cc) hg hms hb hbb ⟨rfl, ?_⟩)
  refine wpAny_loadName_free rfl k2 rfl ⟨_, X _ _ hcell, rfl⟩ ?_
  refine wpAny_loadName_local rfl (by rw [har]; exact k3) hn (by rw [har]; exact hv) ?_
  refine ks_wpAny_isType_cls hC1 hC2 ⟨rfl, ?_⟩
  refine ks_wpAny_call_super hC1 hC2 hx rfl (fun c e => by cases e) (looks_mroIn X T.own) (fun h1 e1 u1 => ?_)
  have X1 : K.In h1 := X.keeps u1
  have hx1 := u1 _ _ hx
  have LC : Looks (model prog w) h1 (mroOf (.ref C)) cd.mro := (looks_clsIn X1 hcd).andThen .now
  have I1 : InstAt h1 x (excO C t0) C none := ⟨hx1, rfl, rfl, trivial⟩
  refine kxs_getMethod kxs_ValueError e1 (looks_opaque X1 T.tp) LC rfl X1 hal (I1.type.andThen (looks_subIn X1 T.subV)) hxC (by decide) ?_
  have u2 : ∀ b o, h1.get? b = some o → (h1.push (kxs_mw "ValueError.__init__" x)).get? b = some o := fun b o e => Heap.get?_push_of_some _ e
  refine kxs_callWith (i := "ValueError.__init__") (x := x) hpl (hargs _ _ _ _ (fun b o e => u2 _ _ (u1 _ _ e)) ⟨Heap.get?_push_size h1 rfl, ?_⟩)
  exact call_mw (X1.keeps u2) T.ini (Heap.get?_push_size h1 rfl) (u2 _ _ hx1) hz fun h' k' e' => hq h' _ (fun b o hb e => k' b o hb (u2 _ _ (u1 _ _ e))) e'

theorem ldS {M : Model} {s : Shared} {L a cc : Addr} {cd : Value} {m : Str → Option Value} {x : Str} {pos : Pos} {v : Value} {Q : Value → Shared → Prop} (hn : s.heap.Ns L m) (hv : m x = some v) (h : Q v s)
    (hl : (xS ns).names.lookup x = some .local) (hd : (x == ("__debug__" : Str)) = false) :
    wpAny M A (eval (.Name x pos) (ksEnv qual (xS ns) L a cd cc)) Q E s := wpAny_Name (wpAny_loadName_local rfl hl hn hv h) hd
/-- a name of the parameters -/
structure Nm (ns : List Str) (a : Str) : Prop where
  loc : (xS ns).names.lookup a = some .local
  dbg : (a == ("__debug__" : Str)) = false
  self : (a == ("self" : Str)) = false
structure Nms (ns : List Str) : Prop where
  k1 : (xS ns).names.lookup ("super" : Str) = some .globalImplicit
  k2 : (xS ns).names.lookup ("__class__" : Str) = some .free
  k3 : (xS ns).names.lookup ("self" : Str) = some .local
  nm : ∀ a ∈ ns, Nm ns a
theorem evalNames1 {env : Env} {M : Model} {A' : Around} {E' : Value → Shared → Prop} {s : Shared} {q : Pos} {e1 : Expr} {v1 : Value} {u : Addr} {R' : Args → Shared → Prop} (h1 : starEach [e1] env = [(false, eval e1 env)]) (l1 : ∀ (Q : Value → Shared → Prop), Q v1 s → wpAny M A' (eval e1 env) Q E' s)
    (h : R' ⟨[v1], []⟩ s) : wpAny M A' (evalArgs (.ref u) true (backTo q (starEach [e1] env)) []) R' E' s := by
  have z : wpAny M A' (spliced (backTo q (starEach [e1] env))) (fun vs s₁ => R' ⟨vs, []⟩ s₁) E' s := by
    rw [h1]
    show wpAny _ _ (spliced ((false, eval e1 env) :: backTo q [])) _ _ s
    exact spliced_cons (l1 _ (spliced_nil h))
  rw [h1] at z ⊢
  exact evalArgs_plain z
theorem evalNames2 {env : Env} {M : Model} {A' : Around} {E' : Value → Shared → Prop} {s : Shared} {q : Pos} {e1 e2 : Expr} {v1 v2 : Value} {u : Addr} {R' : Args → Shared → Prop} (h1 : starEach [e1, e2] env = (false, eval e1 env) :: starEach [e2] env) (h2 : starEach [e2] env = [(false, eval e2 env)])
    (l1 : ∀ (Q : Value → Shared → Prop), Q v1 s → wpAny M A' (eval e1 env) Q E' s) (l2 : ∀ (Q : Value → Shared → Prop), Q v2 s → wpAny M A' (eval e2 env) Q E' s) (hp : (backTo q (starEach [e2] env)).any (·.1) = false)
    (h : R' ⟨[v1, v2], []⟩ s) : wpAny M A' (evalArgs (.ref u) true (backTo q (starEach [e1, e2] env)) []) R' E' s := by
  have z : wpAny M A' (spliced (backTo q (starEach [e1, e2] env))) (fun vs s₁ => R' ⟨vs, []⟩ s₁) E' s := by
    rw [h1]
    show wpAny _ _ (spliced ((false, eval e1 env) :: backTo q (starEach [e2] env))) _ _ s
    refine spliced_cons (l1 _ ?_)
    rw [h2]
    show wpAny _ _ (spliced ((false, eval e2 env) :: backTo q [])) _ _ s
    exact spliced_cons (l2 _ (spliced_nil h))
  rw [h1] at z ⊢
  exact evalArgs_plain z
/-- how the text calls super().__init__(..), written out -/
def SupForm (args : List Expr) (q1 q2 q3 q4 : Pos) : Prop := ∀ env : Env, ∃ pl : Sem Bool, eval (.Call (.Attribute (.Call (.Name "super" q1) [] [] q2) "__init__" q3) args [] q4) env = (do
      let ov ← attributeBase (.Call (.Name "super" q1) [] [] q2) "__init__" env (eval (.Call (.Name "super" q1) [] [] q2) env)
      standAt q3.atName
      let (f, first) ← holding [ov] (getMethod ov "__init__" pl)
      callWith q4 f first (backTo q4 (starEach args env)) [])
/-- __init__ of one parameter -/
theorem init1 {a : Str} {q1 q2 q3 q4 q5 r1 s1 s2 s3 s4 : Pos} {x t0 : Addr} {v : Value} {mb : Str → Option Value} {args : Args} (T : Xc prog K qual [a] params [xSup [.Name a r1] q1 q2 q3 q4 q5, xSet a s1 s2 s3 s4] C fI fd) (N : Nms [a]) (X : K.In h) (hlim : h.NoLimit)
    (hform : SupForm [.Name a r1] q1 q2 q3 q4) (hbind : BindsTo ⟨h, g, d, t, os⟩ fd args [("self", .ref x), (a, v)])
    (hg : h.Ns mainGlobals mg) (hb : h.Ns builtinsNs mb) (hbb : mb "super" = some (.type "super")) (hms : mg "super" = none) (htop : (prog.main.scope.names.lookup ("super" : Str)).isSome = false) (hx : h.get? x = some (excO C t0)) (hnx : K.lookup x = none) (hroom : A.depth < recursionLimit)
    (hq : ∀ h' tk dx, Left h h' x C dx (fun y => if y = a then some v else none) [a] → R (.ok (.ret .none)) ⟨h', g, d, tk, os⟩) :
    codeAny (model prog w) A (.call (.ref fI) args) R ⟨h, g, d, t, os⟩ := by
  obtain ⟨od, kV, doc, pm, an, ct, cc, cda, osl, vs, file, tf, ccl, cl, cdd, cld, ccs, csl, rfl, hf, hcd, hcode, hvs, hfile, hcell⟩ := T.fn
  obtain ⟨ar, hp, har⟩ := T.hd
  obtain ⟨cd, hcl, hm, hh⟩ := T.cls
  have na := N.nm a List.mem_cons_self
  have hxC : x ≠ C := fun z => by
    have hcl' := hcl
    unfold clsIn at hcl'
    rw [← z, hnx] at hcl'
    cases hcl'
  refine ks_codeAny_call_defAt (binds := [("self", .ref x), (a, v)]) (s := ⟨h, g, d, t, os⟩) hroom (X _ _ hf) rfl hlim (codeRec_of X hcd) rfl hbind ?_ ?_ (fun h₁ hn hk => ?_) rfl rfl rfl
  · intro y hy
    have hy' : y ∈ (xS [a]).names := hy
    simp only [xS, List.map_cons, List.map_nil, List.cons_append, List.nil_append, List.mem_cons, List.not_mem_nil, or_false] at hy'
    rcases hy' with rfl | rfl | rfl | rfl <;> (intro z; cases z)
  · intro y hy
    rcases List.mem_cons.mp hy with rfl | hy
    · exact N.k3
    · rcases List.mem_cons.mp hy with rfl | hy
      · exact na.loc
      · cases hy
  · have X₁ : K.In h₁ := X.keeps hk
    have gS : h₁.Ns mainGlobals mg := hg.keeps hk
    have bS : h₁.Ns builtinsNs mb := hb.keeps hk
    have hx₁ := hk _ _ hx
    have hns1 : (fun y => ([("self", Value.ref x), (a, v)] : List (Str × Value)).reverse.lookup y) a = some v := by
      show List.lookup a [(a, v), ("self", .ref x)] = some v
      simp [List.lookup]
    have hns0 : (fun y => ([("self", Value.ref x), (a, v)] : List (Str × Value)).reverse.lookup y) "self" = some (.ref x) := by
      show List.lookup ("self" : Str) [(a, v), ("self", .ref x)] = some (.ref x)
      have e : (("self" : Str) == a) = false := by rw [Bool.eq_false_iff]; intro z; have := na.self; rw [← beq_iff_eq.mp z] at this; simp at this
      simp [List.lookup, e]
    refine ks_wpAt_execs_cons (ks_wpAt_Expr_any ?_)
    obtain ⟨pl, hpl⟩ := hform (ksEnv qual (xS [a]) h.objs.size fI (.ref cda) cc)
    refine sup_node (env := ksEnv qual (xS [a]) h.objs.size fI (.ref cda) cc) (us := [v]) (pl := pl) T X₁ gS bS hbb hms rfl N.k1 N.k2 N.k3 hf hp har hn hns0 hx₁ hcode hvs hfile hcell htop hxC (by show 1 ≤ sizeLine; decide) hpl (fun h1 t1 u R' k hR => ?_) rfl ?_
    · refine evalNames1 rfl (fun Q q => ?_) hR
      exact ldS (hn.keeps k) hns1 q na.loc na.dbg
    · intro h2 t2 k2 ⟨t3, hx2⟩
      refine wpAt_of_wpAny ?_
      have hLx : h.objs.size ≠ x := Nat.ne_of_gt (Heap.lt_size hx)
      have hn2 : h2.Ns h.objs.size (fun y => ([("self", Value.ref x), (a, v)] : List (Str × Value)).reverse.lookup y) := by
        obtain ⟨oL, es, ep, hL, r⟩ := hn
        exact ⟨oL, es, ep, k2 _ _ hLx hL, r⟩
      have X2 : K.In h2 := kept_but X₁ hnx k2
      refine wpAny_execs_cons (plainObj_wpAny_Assign_Attribute ?_)
      refine ldS hn2 hns1 (ldS hn2 hns0 ?_ N.k3 (by decide)) na.loc na.dbg
      refine set_plain X2 (ox := excO C t3) (od := none) ⟨hx2, rfl, rfl, trivial⟩ T.sa ?_
      refine exc_osa X2 hx2 hcl hm hh (T.noN a List.mem_cons_self) (fun h3 tk3 dx k3 dn dne hx3 hn3 => ?_)
      show wpAny _ _ (execs _ _) _ _ _
      have z : h.objs.size < h2.objs.size := hn2.lt
      exact wpAny_execs_nil (hq h3 tk3 dx ⟨fun b o hb e => k3 b o hb (k2 b o hb (hk b o e)), ⟨t3, hx3⟩, Nat.le_of_lt (Nat.lt_of_lt_of_le z dn), dne, hn3, Within.cons a v Within.nil⟩)
end
end Exo

namespace Exo
open PySem PySem.W PySem.Calls PyProof.Rows PySem.HandSPX
section
variable {M : Model} {A : Around} {E : Value → Shared → Prop} {h : Heap} {g : Array GenState} {d : Drawn} {t : Nat} {os : OsState}
variable {nm q : Str} {C N : Addr} {bs bm bmB : List Value} {hdct : Bool} {sn : List Str} {sub : List Value} {ab : Bool} {col : Option Bool} {dd : Option Addr} {k0 k1 k2 k3 k5 : Option Value} {B newId initId : String}
theorem check_kw (F : ExcBaseFacts B newId initId bmB) (hT : ∀ X : String, bm.contains (.type X) = bmB.contains (.type X)) {rest : List Value} {kw : List (Str × Value)} {Q : Unit → Shared → Prop}
    (hC : h.get? C = some (excClassObj nm q C N bs bm hdct sn sub ab col dd k0 k1 k2 k3 k5 newId)) (hq : Q () ⟨h, g, d, t, os⟩) : wpAny M A (checkBuiltinCall newId ⟨.ref C :: rest, kw⟩) Q E ⟨h, g, d, t, os⟩ := by
  have hcont : (Value.ref C :: bm).contains (.type B) = true := by rw [List.contains_cons, hT, F.hasB, Bool.or_true]
  have hstar := F.noStar
  simp only [checkBuiltinCall, F.newKind, F.newSplit, F.newRow]
  repeat (first | refine wpAny_loadPart_at hC ?_ | (refine wpAny_isSubtype_exc hC ?_; rw [hcont]) | refine wpAny_staticBase_exc hC ?_ | refine wpAny_madeBy_exc hC ?_ | simp only [bne_self_eq_false, Bool.false_eq_true, if_false] | wp_step)
  all_goals exact hq
end
section
variable {prog : Program} {w : World} {A : Around} {E : Value → Shared → Prop} {R : Result → Shared → Prop} {h : Heap} {g : Array GenState} {d : Drawn} {t : Nat} {os : OsState}
variable {nm q : Str} {C N : Addr} {bs bm bmB : List Value} {hdct : Bool} {sn : List Str} {sub : List Value} {ab : Bool} {col : Option Bool} {dd : Option Addr} {k0 k1 k2 k3 k5 : Option Value} {B newId initId : String}
theorem new_kw (F : ExcBaseFacts B newId initId bmB) (hT : ∀ X : String, bm.contains (.type X) = bmB.contains (.type X)) {rest : List Value} {kw : List (Str × Value)}
    (hC : h.get? C = some (excClassObj nm q C N bs bm hdct sn sub ab col dd k0 k1 k2 k3 k5 newId))
    (hq : R (.ok (.ret (.ref (h.objs.size + 1)))) ⟨(h.push (kdv_tup rest)).push (excO C h.objs.size), g, d, t, os⟩) (hrest : rest.length ≤ sizeLine) :
    codeAny (model prog w) A (.builtin newId ⟨.ref C :: rest, kw⟩) R ⟨h, g, d, t, os⟩ := by
  have hends := F.ends
  have hcB : (Value.ref C :: bm).contains (.type B) = true := by rw [List.contains_cons, hT, F.hasB, Bool.or_true]
  have hcA : (Value.ref C :: bm).contains (.type "AttributeError") = false := by rw [List.contains_cons, hT, F.noAttr]; rfl
  have hcN : (Value.ref C :: bm).contains (.type "NameError") = false := by rw [List.contains_cons, hT, F.noName]; rfl
  refine codeAny_builtinAt F.entry ?_
  unfold Builtin.«BaseException.__new__»
  refine PySem.wpAt_bind ?_
  show PySem.wpAt _ _ _ (stack >>= _) _ _ _
  refine PySem.wpAt_bind (PySem.wpAt_stack fun p below => PySem.wpAt_of_wpAny ?_)
  wp_walk
  refine PySem.wpAt_of_wpAny ?_
  rw [F.owner]
  repeat (first | with_reducible refine wpAny_madeHere_exc F.canon hC ?_ | with_reducible refine wpAny_loadPart_at hC ?_ | (with_reducible refine wpAny_isSubtype_exc hC ?_; first | rw [hcB] | rw [hcA] | rw [hcN]) | wp_step)
  show R _ _
  rw [Heap.size_push]
  exact hq
theorem type_call_kw (F : ExcBaseFacts B newId initId bmB) (hT : ∀ X : String, bm.contains (.type X) = bmB.contains (.type X)) {rest : List Value} {kw : List (Str × Value)} {fI : Addr} {Q : Fin → Shared → Prop}
    (hC : h.get? C = some (excClassObj nm q C N bs bm hdct sn sub ab col dd k0 k1 k2 k3 k5 newId))
    (hi : Looks (model prog w) h (typeLookup (.ref C) "__init__") (some (.ref fI))) (hb : ∀ self, Looks (model prog w) h (bindSpecial (.ref fI) self) (.ref fI, [self])) (hrest : rest.length ≤ sizeLine)
    (hq : codeAny (model prog w) A (.call (.ref fI) ⟨.ref (h.objs.size + 1) :: rest, kw⟩)
      (fun r s' => match r with | .ok (.ret v) => v = .none ∧ Q (.done (.ret (.ref (h.objs.size + 1)))) s' | .ok _ => False | .error e => E e s')
      ⟨(h.push (kdv_tup rest)).push (excO C h.objs.size), g, d, t, os⟩) :
    wpAny (model prog w) A (Builtin.«type.__call__» ⟨.ref C :: rest, kw⟩) Q E ⟨h, g, d, t, os⟩ := by
  repeat (first | with_reducible refine wpAny_loadPart_at hC ?_ | with_reducible refine wpAny_madeBy_exc hC ?_ | wp_step)
  refine codeAny_call_builtin_code (Code.quiet_builtin _ F.quiet) (check_kw F hT hC ?_)
  refine new_kw F hT hC ?_ hrest
  show wpAny _ _ _ _ _ _
  have k : ∀ b o, h.get? b = some o → ((h.push (kdv_tup rest)).push (excO C h.objs.size)).get? b = some o := fun b o e => Heap.get?_push_of_some _ (Heap.get?_push_of_some _ e)
  have hC₁ := k _ _ hC
  have hget : ((h.push (kdv_tup rest)).push (excO C h.objs.size)).get? (h.objs.size + 1) = some (excO C h.objs.size) := by heap_get
  have hcC : (Value.ref C :: bm).contains (.ref C) = true := by simp
  have i1 := hi.keeps k
  have b1 := (hb (.ref (h.objs.size + 1))).keeps k
  unfold isInstance
  repeat (first | with_reducible refine wpAny_loadPart_at hget ?_ | (with_reducible refine wpAny_isSubtype_exc hC₁ ?_; rw [hcC]) | wp_step)
  show wpAny _ _ (typeLookup (.ref C) _) _ _ _
  refine i1.at ?_
  refine wpAny_holding (wpAny_bind (b1.at ?_))
  refine wpAny_bind (wpAny_call (codeAny_mono hq fun r s' z => ?_))
  rcases r with e | (v | _ | _ | _) <;> first | exact z | exact z.elim | skip
  obtain ⟨rfl, z⟩ := z
  first
    | exact wpAny_pure (wpAny_pure z)
    | (wp_walk; exact z)
theorem check_tc {M : Model} {rest : List Value} {kw : List (Str × Value)} {Q : Unit → Shared → Prop} (hC : h.get? C = some (excClassObj nm q C N bs bm hdct sn sub ab col dd k0 k1 k2 k3 k5 newId))
    (hq : Q () ⟨h, g, d, t, os⟩) : wpAny M A (checkBuiltinCall "type.__call__" ⟨.ref C :: rest, kw⟩) Q E ⟨h, g, d, t, os⟩ := by
  have f3 := tc_sub
  have hTy : (⟨h, g, d, t, os⟩ : Shared).TypeIs (.ref C) "type" := ⟨_, hC, rfl⟩
  simp only [checkBuiltinCall, tc_kind, tc_split]
  repeat (any_goals (first | assumption | with_reducible refine wpAny_loadPart_at hC ?_ | with_reducible refine wpAny_onRaise ?_ | with_reducible refine wpAny_map ?_ | wp_step))
theorem call_kw (F : ExcBaseFacts B newId initId bmB) (hT : ∀ X : String, bm.contains (.type X) = bmB.contains (.type X)) {rest : List Value} {kw : List (Str × Value)} {fI : Addr}
    (hC : h.get? C = some (excClassObj nm q C N bs bm hdct sn sub ab col dd k0 k1 k2 k3 k5 newId))
    (hi : Looks (model prog w) h (typeLookup (.ref C) "__init__") (some (.ref fI))) (hb : ∀ self, Looks (model prog w) h (bindSpecial (.ref fI) self) (.ref fI, [self])) (hrest : rest.length ≤ sizeLine)
    (hq : codeAny (model prog w) (A.under (.builtin "type.__call__" ⟨.ref C :: rest, kw⟩)) (.call (.ref fI) ⟨.ref (h.objs.size + 1) :: rest, kw⟩) (InitBack (h.objs.size + 1) R)
      ⟨(h.push (kdv_tup rest)).push (excO C h.objs.size), g, d, t, os⟩) :
    codeAny (model prog w) A (.call (.ref C) ⟨rest, kw⟩) R ⟨h, g, d, t, os⟩ := by
  have f1 := tc_lookup
  have f2 := tc_bind (.ref C)
  have hTy : (⟨h, g, d, t, os⟩ : Shared).TypeIs (.ref C) "type" := ⟨_, hC, rfl⟩
  refine codeAny_of_tree ?_
  show wpAny _ _ (callAny (.ref C) _) _ _ _
  repeat (any_goals (first | assumption | with_reducible refine wpAny_loadPart_at hC ?_ | wp_step))
  refine ⟨rfl, ?_⟩
  refine codeAny_call_builtin_at (Code.quiet_builtin _ (by decide +kernel)) entry_typeCall (check_tc hC (type_call_kw F hT hC hi hb hrest ?_))
  refine codeAny_mono hq fun r s' z => ?_
  rcases r with e | (v | _ | _ | _) <;> exact z
end
end Exo

namespace Exo
open PySem PySem.W PySem.Calls PyProof.Rows PySem.HandSPX
/-- what the call of such an __init__ leaves, whatever the number of its parameters -/
def InitOk (prog : Program) (w : World) (K : Frag) (mg : Str → Option Value) (C fI : Addr) (fd : FuncData) (ns : List Str) : Prop :=
  ∀ (A : Around) (R : Result → Shared → Prop) (h : Heap) (g : Array GenState) (d : Drawn) (t : Nat) (os : OsState) (x t0 : Addr) (vs : List Value) (args : Args) (mb : Str → Option Value), vs.length = ns.length → K.In h → h.NoLimit →
    BindsTo ⟨h, g, d, t, os⟩ fd args (("self", .ref x) :: ns.zip vs) → h.Ns mainGlobals mg → h.Ns builtinsNs mb → mb "super" = some (.type "super") → h.get? x = some (excO C t0) → K.lookup x = none → A.depth < recursionLimit →
    (∀ h' tk dx m, Left h h' x C dx m ns.reverse → (∀ f, m f = (ns.zip vs).lookup f) → R (.ok (.ret .none)) ⟨h', g, d, tk, os⟩) →
    codeAny (model prog w) A (.call (.ref fI) args) R ⟨h, g, d, t, os⟩
section
variable {prog : Program} {w : World} {A : Around} {E : Value → Shared → Prop} {R : Result → Shared → Prop} {K : Frag} {mg : Str → Option Value} {C fI : Addr} {qual : Str} {ns : List Str} {params : Arguments} {body : List Stmt} {fd : FuncData}
variable {h : Heap} {g : Array GenState} {d : Drawn} {t : Nat} {os : OsState}
theorem initOk1 {a : Str} {q1 q2 q3 q4 q5 r1 s1 s2 s3 s4 : Pos} (T : Xc prog K qual [a] params [xSup [.Name a r1] q1 q2 q3 q4 q5, xSet a s1 s2 s3 s4] C fI fd) (N : Nms [a]) (hform : SupForm [.Name a r1] q1 q2 q3 q4)
    (hms : mg "super" = none) (htop : (prog.main.scope.names.lookup ("super" : Str)).isSome = false) : InitOk prog w K mg C fI fd [a] := by
  intro A R h g d t os x t0 vs args mb hl X hlim hbind hg hb hbb hx hnx hroom hq
  match vs, hl with
  | [v], _ =>
    refine init1 T N X hlim hform hbind hg hb hbb hms htop hx hnx hroom fun h' tk dx L => hq h' tk dx _ L fun f => ?_
    show (if f = a then some v else none) = List.lookup f [(a, v)]
    by_cases e : f = a
    · subst e
      simp [List.lookup]
    · have e' : (f == a) = false := by simpa using e
      simp [List.lookup, e', e]
/-- __init__ of two parameters -/
theorem initOk2 {a b : Str} {q1 q2 q3 q4 q5 r1 r2 s1 s2 s3 s4 z1 z2 z3 z4 : Pos} (T : Xc prog K qual [a, b] params [xSup [.Name a r1, .Name b r2] q1 q2 q3 q4 q5, xSet a s1 s2 s3 s4, xSet b z1 z2 z3 z4] C fI fd) (N : Nms [a, b]) (hab : (a == b) = false)
    (hform : SupForm [.Name a r1, .Name b r2] q1 q2 q3 q4) (hms : mg "super" = none) (htop : (prog.main.scope.names.lookup ("super" : Str)).isSome = false) : InitOk prog w K mg C fI fd [a, b] := by
  intro A R h g d t os x t0 vs args mb hl X hlim hbind hg hb hbb hx hnx hroom hq
  match vs, hl with
  | [v, u], _ =>
    have hbind : BindsTo ⟨h, g, d, t, os⟩ fd args [("self", .ref x), (a, v), (b, u)] := hbind
    obtain ⟨od, kV, doc, pm, an, ct, cc, cda, osl, vs, file, tf, ccl, cl, cdd, cld, ccs, csl, rfl, hf, hcd, hcode, hvs, hfile, hcell⟩ := T.fn
    obtain ⟨ar, hp, har⟩ := T.hd
    obtain ⟨cd, hcl, hm, hh⟩ := T.cls
    have na := N.nm a List.mem_cons_self
    have nb := N.nm b (List.mem_cons_of_mem _ List.mem_cons_self)
    have sab : a ≠ b := by simpa using hab
    have hxC : x ≠ C := fun z => by
      have hcl' := hcl
      unfold clsIn at hcl'
      rw [← z, hnx] at hcl'
      cases hcl'
    refine ks_codeAny_call_defAt (binds := [("self", .ref x), (a, v), (b, u)]) (s := ⟨h, g, d, t, os⟩) hroom (X _ _ hf) rfl hlim (codeRec_of X hcd) rfl hbind ?_ ?_ (fun h₁ hn hk => ?_) rfl rfl rfl
    · intro y hy
      have hy' : y ∈ (xS [a, b]).names := hy
      simp only [xS, List.map_cons, List.map_nil, List.cons_append, List.nil_append, List.mem_cons, List.not_mem_nil, or_false] at hy'
      rcases hy' with rfl | rfl | rfl | rfl | rfl <;> (intro z; cases z)
    · intro y hy
      rcases List.mem_cons.mp hy with rfl | hy
      · exact N.k3
      · rcases List.mem_cons.mp hy with rfl | hy
        · exact na.loc
        · rcases List.mem_cons.mp hy with rfl | hy
          · exact nb.loc
          · cases hy
    · have X₁ : K.In h₁ := X.keeps hk
      have gS : h₁.Ns mainGlobals mg := hg.keeps hk
      have bS : h₁.Ns builtinsNs mb := hb.keeps hk
      have hx₁ := hk _ _ hx
      have eba : (a == b) = false := hab
      have hnsa : (fun y => ([("self", Value.ref x), (a, v), (b, u)] : List (Str × Value)).reverse.lookup y) a = some v := by
        show List.lookup a [(b, u), (a, v), ("self", .ref x)] = some v
        simp [List.lookup, eba]
      have hnsb : (fun y => ([("self", Value.ref x), (a, v), (b, u)] : List (Str × Value)).reverse.lookup y) b = some u := by
        show List.lookup b [(b, u), (a, v), ("self", .ref x)] = some u
        simp [List.lookup]
      have hns0 : (fun y => ([("self", Value.ref x), (a, v), (b, u)] : List (Str × Value)).reverse.lookup y) "self" = some (.ref x) := by
        show List.lookup ("self" : Str) [(b, u), (a, v), ("self", .ref x)] = some (.ref x)
        have e : (("self" : Str) == a) = false := by rw [Bool.eq_false_iff]; intro z; have := na.self; rw [← beq_iff_eq.mp z] at this; simp at this
        have e2 : (("self" : Str) == b) = false := by rw [Bool.eq_false_iff]; intro z; have := nb.self; rw [← beq_iff_eq.mp z] at this; simp at this
        simp [List.lookup, e, e2]
      refine ks_wpAt_execs_cons (ks_wpAt_Expr_any ?_)
      obtain ⟨pl, hpl⟩ := hform (ksEnv qual (xS [a, b]) h.objs.size fI (.ref cda) cc)
      refine sup_node (env := ksEnv qual (xS [a, b]) h.objs.size fI (.ref cda) cc) (us := [v, u]) (pl := pl) T X₁ gS bS hbb hms rfl N.k1 N.k2 N.k3 hf hp har hn hns0 hx₁ hcode hvs hfile hcell htop hxC (by show 2 ≤ sizeLine; decide) hpl (fun h1 t1 uu R' k hR => ?_) rfl ?_
      · refine evalNames2 rfl rfl (fun Q q => ?_) (fun Q q => ?_) rfl hR
        · exact ldS (hn.keeps k) hnsa q na.loc na.dbg
        · exact ldS (hn.keeps k) hnsb q nb.loc nb.dbg
      · intro h2 t2 k2 ⟨t3, hx2⟩
        refine PySem.wpAt_of_wpAny ?_
        have hLx : h.objs.size ≠ x := Nat.ne_of_gt (Heap.lt_size hx)
        have at2 : ∀ {hh : Heap}, (∀ c o, c ≠ x → h₁.get? c = some o → hh.get? c = some o) → hh.Ns h.objs.size (fun y => ([("self", Value.ref x), (a, v), (b, u)] : List (Str × Value)).reverse.lookup y) := fun kk => by
          obtain ⟨oL, es, ep, hL, r⟩ := hn
          exact ⟨oL, es, ep, kk _ _ hLx hL, r⟩
        have hn2 := at2 k2
        have X2 : K.In h2 := kept_but X₁ hnx k2
        refine wpAny_execs_cons (plainObj_wpAny_Assign_Attribute ?_)
        refine ldS hn2 hnsa (ldS hn2 hns0 ?_ N.k3 (by decide)) na.loc na.dbg
        refine set_plain X2 (ox := excO C t3) (od := none) ⟨hx2, rfl, rfl, trivial⟩ T.sa ?_
        refine exc_osa X2 hx2 hcl hm hh (T.noN a List.mem_cons_self) (fun h3 tk3 dx k3 dn dne hx3 hn3 => ?_)
        show wpAny _ _ (execs _ _) _ _ _
        have z : h.objs.size < h2.objs.size := hn2.lt
        have k23 : ∀ c o, c ≠ x → h₁.get? c = some o → h3.get? c = some o := fun c o hc e => k3 c o hc (k2 c o hc e)
        have hn3L := at2 k23
        have X3 : K.In h3 := kept_but X₁ hnx k23
        refine wpAny_execs_cons (plainObj_wpAny_Assign_Attribute ?_)
        refine ldS hn3L hnsb (ldS hn3L hns0 ?_ N.k3 (by decide)) nb.loc nb.dbg
        obtain ⟨oD, esD, epD, hoD, hdD, hrD⟩ := hn3
        refine set_plain X3 (od := some oD) ⟨hx3, rfl, rfl, hoD⟩ T.sa ?_
        refine osa_more X3 hx3 ⟨oD, esD, epD, hoD, hdD, hrD⟩ (Within.cons a v Within.nil) (by show 1 ≤ 1000; decide) hcl hm hh (T.noN b (List.mem_cons_of_mem _ List.mem_cons_self)) (fun h4 tk4 k4 hn4 => ?_)
        show wpAny _ _ (execs _ _) _ _ _
        refine wpAny_execs_nil (hq h4 tk4 dx _ ⟨fun c o hc e => ?_, ⟨t3, k4 x _ (Ne.symm dne) hx3⟩, Nat.le_of_lt (Nat.lt_of_lt_of_le z dn), dne, hn4, Within.cons b u (Within.cons a v Within.nil)⟩ fun f => ?_)
        · exact k4 c o (Nat.ne_of_lt (Nat.lt_of_lt_of_le (Nat.lt_trans (Heap.lt_size e) z) dn)) (k23 c o hc (hk c o e))
        · show (if f = b then some u else if f = a then some v else none) = List.lookup f [(a, v), (b, u)]
          by_cases e : f = a
          · subst e
            rw [if_neg sab, if_pos rfl]
            simp [List.lookup]
          · have e' : (f == a) = false := by simpa using e
            rw [if_neg e]
            by_cases e2 : f = b
            · subst e2
              simp [List.lookup, e']
            · have e3 : (f == b) = false := by simpa using e2
              simp [List.lookup, e', e3, e2]
end
end Exo

namespace L2
open PySem PySem.Spec PyProof.Rows
/-- an error at a, not raised; its attributes stand in the dict at dx -/
def ExV (C dx a : Addr) : HO := .ext fun h => ∃ t, h.get? a = some { cls := .ref C, dict := some dx, data := .fields #[.ref t, .none, .none, .none, .bool false, .none] }
theorem exV_ok {P : Program} {w : World} {H : Hp} {h : Heap} {C dx a t : Addr} (e : h.get? a = some { cls := .ref C, dict := some dx, data := .fields #[.ref t, .none, .none, .none, .bool false, .none] }) : ObjOk P w H h a (ExV C dx a) :=
  ⟨⟨t, e⟩, ⟨_, e⟩, fun _ _ ⟨u, q⟩ k => ⟨u, k _ q⟩⟩
theorem relO_zip {m : Str → Option Value} : ∀ {ns : List Str} {vs : List V} {us : List Value}, Vals vs us → ∀ f : Str, RelO ((ns.zip vs).lookup f) ((ns.zip us).lookup f)
  | [], _, _, _, f => by simp [List.zip, RelO]
  | n :: ns, _, _, .nil, f => by simp [List.zip, RelO]
  | n :: ns, _, _, .cons r t, f => by
    show RelO (List.lookup f ((n, _) :: ns.zip _)) (List.lookup f ((n, _) :: ns.zip _))
    rw [List.lookup_cons, List.lookup_cons]
    cases f == n with
    | true => exact r
    | false => exact relO_zip (m := m) t f
section
variable {X : Cx} {pins : List (Addr × Obj)} {σ : St} {H : Hp} {s : Shared} {C fI : Addr} {fd : FuncData} {ns : List Str} {Q : VK}
/-- what such a class says to a call -/
structure ExCl (X : Cx) (C fI : Addr) (fd : FuncData) (ns : List Str) : Prop where
  ini : PySem.W.excInitIn X.K C [.type "ValueError", .type "Exception", .type "BaseException", .type "object"] "ValueError.__new__" = true
  iC : PySem.W.findIn X.K (.ref C) "__init__" = some (some (.ref fI))
  tI : PySem.W.typeIn X.K (.ref fI) = some (.type "function")
  kC : PySem.W.keepIn X.K (.ref C) = true
  ok : Exo.InitOk X.prog X.w X.K X.mg C fI fd ns
theorem run_exo {us ws : List Value} {vs : List V} {kw : List (Str × Value)} (T : ExCl X C fI fd ns) (hr : Room 1 X.A) (I : Inv X pins σ H s) (hb : ∀ (s' : Shared) (x : Addr), BindsTo s' fd ⟨.ref x :: us, kw⟩ (("self", .ref x) :: ns.zip ws)) (r : Vals vs ws)
    (hl : ws.length = ns.length) (hus : us.length ≤ sizeLine) (q : ∀ dx a, H dx = none → H a = none → dx ≠ a → Q (.ref a) (upd (upd H dx (.xd (ns.zip vs))) a (ExV C dx a))) :
    wpAny (model X.prog X.w) X.A (call (.ref C) us kw) (EP X pins σ Q) X.xe s := by
  obtain ⟨hp, g, dr, tk, os⟩ := s
  obtain ⟨nm, N', qn, bs, bm, hdct, sn, sub, ab, col, dd, k0, k1, k2, k3, k5, hC, hT⟩ := PySem.W.excInit_of I.kIn T.ini
  have k : ∀ b o, hp.get? b = some o → ((hp.push (PySem.W.kdv_tup us)).push (PySem.HandSPX.excO C hp.objs.size)).get? b = some o := fun b o e => Heap.get?_push_of_some _ (Heap.get?_push_of_some _ e)
  have hget : ((hp.push (PySem.W.kdv_tup us)).push (PySem.HandSPX.excO C hp.objs.size)).get? (hp.objs.size + 1) = some (PySem.HandSPX.excO C hp.objs.size) := by heap_get
  have hnx : X.K.lookup (hp.objs.size + 1) = none := by
    cases e : X.K.lookup (hp.objs.size + 1) with
    | none => rfl
    | some o =>
      have z : hp.get? (hp.objs.size + 1) = some o := I.kIn _ _ e
      exact absurd (Nat.lt_of_succ_lt (Heap.lt_size z)) (Nat.lt_irrefl _)
  obtain ⟨mb, hmb, hbb⟩ := I.ok.mod.blt
  have gS : hp.Ns mainGlobals X.mg := I.ok.mod.glob.keeps fun b o e => (I.bs b o e).1
  have bS : hp.Ns builtinsNs mb := hmb.keeps fun b o e => (I.bs b o e).1
  have bsup : mb "super" = some (.type "super") := (hbb "super" (by decide)).trans (by first | rfl | decide +kernel | kernel_rfl)
  refine wpAny_call (Exo.call_kw F.excBase_ValueError hT hC (PySem.W.looks_findIn I.kIn T.iC) (fun self => PySem.W.bind_fn I.kIn self T.tI) hus ?_)
  refine T.ok _ _ _ _ _ _ _ _ hp.objs.size ws _ mb hl (I.kIn.keeps k) (I.nolimit.keeps k) (hb _ _) (gS.keeps k) (bS.keeps k) bsup hget hnx ?_ fun h' tk' dx m L hm => ?_
  · rw [make_depth]
    have := hr.dp
    omega
  · have old : ∀ b o, hp.get? b = some o → h'.get? b = some o := fun b o e => L.keep b o (Nat.ne_of_lt (Nat.lt_succ_of_lt (Heap.lt_size e))) (k b o e)
    obtain ⟨t1, he⟩ := L.obj
    have dbig : hp.objs.size + 1 + 1 ≤ dx := by
      have q := L.dbig
      rw [Heap.size_push, Heap.size_push] at q
      exact q
    obtain ⟨G, g1, g2⟩ := restrict h' fun b => decide (b ≠ hp.objs.size + 1)
    have gk : ∀ b, b ≠ hp.objs.size + 1 → G.get? b = h'.get? b := fun b hb => g1 b (decide_eq_true hb)
    have ge : G.get? (hp.objs.size + 1) = none := g2 _ (decide_eq_false fun z => z rfl)
    have oldG : ∀ b o, hp.get? b = some o → G.get? b = some o := fun b o e => (gk b (Nat.ne_of_lt (Nat.lt_succ_of_lt (Heap.lt_size e)))).trans (old b o e)
    have newH : ∀ b o, G.get? b = some o → h'.get? b = some o := fun b o e => by
      by_cases hb : b = hp.objs.size + 1
      · rw [hb, ge] at e
        cases e
      · exact (gk b hb).symm.trans e
    have nD : H dx = none := I.hok.fresh (Nat.le_of_succ_le (Nat.le_of_succ_le dbig))
    have nE : H (hp.objs.size + 1) = none := I.hok.fresh (Nat.le_succ _)
    have gone : hp.get? dx = none := Heap.get?_none_of_le (Nat.le_of_succ_le (Nat.le_of_succ_le dbig))
    have obD : ObjOk X.prog X.w (upd H dx (.xd (ns.zip vs))) G dx (.xd (ns.zip vs)) :=
      ⟨m, L.dict.at (fun o q => (gk dx L.dne).trans q), fun f => by rw [hm f]; exact relO_zip (m := m) r f⟩
    have J1 := I.laidN (h' := G) (t' := tk) oldG gone nD obD
    have nE2 : upd H dx (.xd (ns.zip vs)) (hp.objs.size + 1) = none := by
      rw [upd_ne (Ne.symm L.dne)]
      exact nE
    have J2 := J1.laidN (h' := h') (t' := tk') (o := ExV C dx (hp.objs.size + 1)) newH ge nE2 (exV_ok he)
    exact ⟨rfl, ⟨.ref (hp.objs.size + 1), _, J2, rfl, q dx _ nD nE L.dne⟩⟩
/-- C(e, ..) -/
def tExo (C : Addr) (ns : List Str) (ta : TA) : TE := fun σ H Q => ta σ H fun vs H1 => vs.length = ns.length ∧ ∀ dx a, H1 dx = none → H1 a = none → dx ≠ a → Q (.ref a) (upd (upd H1 dx (.xd (ns.zip vs))) a (ExV C dx a))
/-- C(e, .., k = v, ..) -/
def tExoK (C : Addr) (n m : Nat) (ns : List Str) (g : List V → List V → List V) (ta tk : TA) : TE := fun σ H Q => ta σ H fun vs H1 => tk σ H1 fun zs H2 => vs.length = n ∧ zs.length = m ∧ (g vs zs).length = ns.length ∧
  ∀ dx a, H2 dx = none → H2 a = none → dx ≠ a → Q (.ref a) (upd (upd H2 dx (.xd (ns.zip (g vs zs)))) a (ExV C dx a))
/-- how __init__ binds n places and the keywords ks (behind self) -/
structure EBind (fd : FuncData) (ns ks : List Str) (n : Nat) (g : {α : Type} → List α → List α → List α) : Prop where
  to : ∀ (s : Shared) (x : Addr) (us zs : List Value), us.length = n → zs.length = ks.length → BindsTo s fd ⟨.ref x :: us, ks.zip zs⟩ (("self", .ref x) :: ns.zip (g us zs))
  rel : ∀ {vs : List V} {us : List Value} {zs : List V} {ws : List Value}, Vals vs us → Vals zs ws → Vals (g vs zs) (g us ws)
variable {x : Str} {p pos : Pos} {e : Expr} {es : List Expr} {kws : List Keyword} {t tk : TA} {ks : List Str} {n : Nat} {g : {α : Type} → List α → List α → List α}
theorem pe_exo (T : ExCl X C fI fd ns) (hr : Room 1 X.A) (hb : EBind fd ns [] ns.length fun us _ => us) (hn : ns.length ≤ 8) (hg : Gl X x) (hm : X.mg x = some (.ref C)) (ha : PA X (e :: es) t) (hdb : (x == ("__debug__" : Str)) = false := by decide)
    (he : starEach (e :: es) X.env = (false, eval e X.env) :: starEach es X.env := by rfl) (hpl : (backTo pos (starEach es X.env)).any (·.1) = false := by rfl) :
    PE X (.Call (.Name x p) (e :: es) [] pos) (tExo C ns t) := by
  refine ⟨fun pins s σ H Q I h => ?_⟩
  refine wpAny_Call_Name_kw (ld_glob I hg hm ?_ hdb)
  refine PySem.W.callWith_K (h₀ := X.base) I.ok.mod.kin T.kC (thn (ha.run pos pins s σ H _ I h) fun us s1 ⟨vs, H1, I1, r1, hz, q1⟩ => ⟨I1.kIn, ?_⟩) he hpl
  have hl : us.length = ns.length := r1.length.symm.trans hz
  have hz8 : us.length ≤ sizeLine := by
    rw [hl, sizeLine_eq]
    omega
  exact run_exo T hr I1 (fun s' x => hb.to s' x us [] hl rfl) r1 hl hz8 q1
theorem pe_exoK0 (T : ExCl X C fI fd ns) (hr : Room 1 X.A) (hb : EBind fd ns ks 0 g) (hg : Gl X x) (hm : X.mg x = some (.ref C)) (hkw : PK X kws tk)
    (hall : (backToKw pos (keywordEach kws X.env)).all (·.1.isSome) = true := by rfl) (hks : (backToKw pos (keywordEach kws X.env)).filterMap (·.1) = ks := by rfl) (hdb : (x == ("__debug__" : Str)) = false := by decide)
    (hpl : ((backTo pos (starEach [] X.env)).any (·.1) || (backToKw pos (keywordEach kws X.env)).any (·.1.isNone)) = false := by rfl) :
    PE X (.Call (.Name x p) [] kws pos) (tExoK C 0 ks.length ns g tNil tk) := by
  refine ⟨fun pins s σ H Q I h => ?_⟩
  refine wpAny_Call_Name_kw (ld_glob I hg hm ?_ hdb)
  refine PySem.W.callWith_KW0 (h₀ := X.base) I.ok.mod.kin T.kC hall ?_ hpl
  refine thn (hkw.run pos pins s σ H _ I h) fun ws s2 ⟨zs, H2, I2, rz, l1, l2, l3, q2⟩ => ⟨I2.kIn, ?_⟩
  rw [hks]
  have l2' : ws.length = ks.length := rz.length.symm.trans l2
  have rr : Vals (g [] zs) (g [] ws) := hb.rel .nil rz
  exact run_exo (us := []) (ws := g [] ws) (kw := ks.zip ws) T hr I2 (fun s' x => hb.to s' x [] ws rfl l2') rr (rr.length.symm.trans l3) (Nat.zero_le _) q2
theorem pe_exoK (T : ExCl X C fI fd ns) (hr : Room 1 X.A) (hb : EBind fd ns ks n g) (hn : n ≤ 8) (hg : Gl X x) (hm : X.mg x = some (.ref C)) (ha : PA X (e :: es) t) (hkw : PK X kws tk)
    (hall : (backToKw pos (keywordEach kws X.env)).all (·.1.isSome) = true := by rfl) (hks : (backToKw pos (keywordEach kws X.env)).filterMap (·.1) = ks := by rfl) (hdb : (x == ("__debug__" : Str)) = false := by decide)
    (he : starEach (e :: es) X.env = (false, eval e X.env) :: starEach es X.env := by rfl) (hpl : ((backTo pos (starEach (e :: es) X.env)).any (·.1) || (backToKw pos (keywordEach kws X.env)).any (·.1.isNone)) = false := by rfl) :
    PE X (.Call (.Name x p) (e :: es) kws pos) (tExoK C n ks.length ns g t tk) := by
  refine ⟨fun pins s σ H Q I h => ?_⟩
  refine wpAny_Call_Name_kw (ld_glob I hg hm ?_ hdb)
  refine PySem.W.callWith_KW (h₀ := X.base) I.ok.mod.kin T.kC hall (thn (ha.run pos pins s σ H _ I h) fun us s1 ⟨vs, H1, I1, r, q⟩ => ?_) hpl he
  refine thn (hkw.run pos pins s1 σ H1 _ I1 q) fun ws s2 ⟨zs, H2, I2, rz, l1, l2, l3, q2⟩ => ⟨I2.kIn, ?_⟩
  rw [hks]
  have l1' : us.length = n := r.length.symm.trans l1
  have l2' : ws.length = ks.length := rz.length.symm.trans l2
  have rr : Vals (g vs zs) (g us ws) := hb.rel r rz
  have hz8 : us.length ≤ sizeLine := by
    rw [l1', sizeLine_eq]
    omega
  exact run_exo (us := us) (ws := g us ws) (kw := ks.zip ws) T hr I2 (fun s' x => hb.to s' x us ws l1' l2') rr (rr.length.symm.trans l3) hz8 q2
/-- C(), a class with no __init__ of its own -/
def tExo0 (C : Addr) : TE := fun _ H Q => ∀ a, H a = none → Q (.ref a) (upd H a (ExO (.ref C) a))
theorem pe_exo0 {bmB : List Value} {B newId initId : String} (F : ExcBaseFacts B newId initId bmB) (q : PySem.W.excIn X.K C bmB newId = true) (gC : X.mg x = some (.ref C)) (kC : PySem.W.keepIn X.K (.ref C) = true) (hg : Gl X x)
    (hdb : (x == ("__debug__" : Str)) = false := by decide) : PE X (.Call (.Name x p) [] [] pos) (tExo0 C) := by
  refine ⟨fun pins s σ H Q I h => ?_⟩
  refine wpAny_Call_Name_kw (ld_glob I hg gC ?_ hdb)
  refine PySem.W.callWith_K0 I.kIn kC ?_
  show wpAny _ _ (call (.ref C) []) _ _ _
  obtain ⟨bm, N, nm, qn, bs, hdct, sn, sub, ab, col, dd, k0, k1, k2, k3, k5, mN, hC, hN, hni, T⟩ := exc_obj I.kIn q
  obtain ⟨hp, gg, dr, tk, os⟩ := s
  refine wpAny_call_exc_subT F T hC hN hni (fun h' a hm => ?_) (by show 0 ≤ sizeLine; exact Nat.zero_le _)
  have hn : H a = none := I.hok.gone hm.new
  obtain ⟨t, ht, _, _⟩ := hm.there
  exact ⟨.ref a, upd H a (ExO (.ref C) a), I.laidN hm.keeps hm.new hn (exO_ok ht ⟨rfl, rfl⟩ rfl rfl rfl (show 4 < 6 by decide)), rfl, h a hn⟩
/-- what a class says to the reading of an attribute -/
structure ExAt (K : PySem.W.Frag) (C : Addr) (f : Str) : Prop where
  ga : PySem.W.findIn K (.ref C) "__getattribute__" = some (some (.builtin "BaseException.__getattribute__"))
  gg : PySem.W.findIn K (.ref C) "__getattr__" = some none
  ex : PySem.W.subIn K (.ref C) (.type "BaseException") = some true
  hd : PySem.W.hasDictIn K C = true
  no : PySem.W.findIn K (.ref C) f = some none
/-- the error at a, of class C, with the attributes fs -/
def Er (H : Hp) (C a : Addr) (fs : List (Str × V)) : Prop := ∃ dx, H a = some (ExV C dx a) ∧ H dx = some (.xd fs)
/-- e.f -/
def tExAt (K : PySem.W.Frag) (f : Str) (te : TE) : TE := fun σ H Q => te σ H fun x H1 => ∃ C a fs v, x = .ref a ∧ Er H1 C a fs ∧ fs.lookup f = some v ∧ ExAt K C f ∧ Q v H1
theorem pe_exAt {f : Str} {te : TE} (he : PE X e te) (hb : attributeBase e f X.env (eval e X.env) = eval e X.env := by rfl) : PE X (.Attribute e f pos) (tExAt X.K f te) := by
  refine ⟨fun pins s σ H Q I h => ?_⟩
  refine attr_of hb (thn (he.run pins s σ H _ I h) fun u s1 hh => ?_)
  obtain ⟨x, H1, I1, rx, C, a, fs, v, ex, ⟨dx, ea, ed⟩, hv, T, q⟩ := hh
  subst ex
  obtain rfl : u = Value.ref a := rx
  obtain ⟨⟨t, ha⟩, _⟩ := I1.hok a _ ea
  have hx : ObjOk X.prog X.w H1 s1.heap dx (.xd fs) := I1.hok dx _ ed
  obtain ⟨mA, hns, hr⟩ := hx
  obtain ⟨od, ho, hl⟩ := lookIn_ns hns
  obtain ⟨u, hu, ru⟩ := RelO.some_of (v := v) (o := mA f) (by rw [← hv]; exact hr f)
  have J : PySem.W.InstAt s1.heap a { cls := .ref C, dict := some dx, data := .fields #[.ref t, .none, .none, .none, .bool false, .none] } C (some od) := ⟨ha, rfl, rfl, ho⟩
  exact HandSPX.exc_get I1.kIn J T.ga T.gg T.ex (PySem.W.findObj_own T.hd T.no rfl (by rw [hl, hu])) (handed_of ru) ⟨v, H1, I1.tok _, ru, q⟩
/-- (x, y), K told (in a comprehension) -/
theorem pg_tupK {el : List Expr} {k m : Nat} {tg : TGs} {K : PySem.W.Frag} (hc : X.calm = true) (h : PGs X el tg) (hK : X.K = K := by rfl) (hn : (assignEach el X.env).length = m := by rfl) (hst : (assignEach el X.env).findIdx? (·.1) = none := by rfl) :
    PG X (.Tuple el k pos) (gTup K m tg) := by
  subst hK
  exact pg_tup hc h hn hst
/-- the same, K told (in a comprehension) -/
theorem pe_exAtK {f : Str} {te : TE} {K : PySem.W.Frag} (he : PE X e te) (hK : X.K = K := by rfl) (hb : attributeBase e f X.env (eval e X.env) = eval e X.env := by rfl) : PE X (.Attribute e f pos) (tExAt K f te) := by
  subst hK
  exact pe_exAt he hb
/-- isinstance(e, C), e such an error -/
def rIsX (K : PySem.W.Frag) : List V → Hp → VK → Prop := fun xs H Q => ∃ (a D : Addr) (c : V) (cv : Value) (b : Bool), xs = [.ref a, c] ∧ ((∃ fs, Er H D a fs) ∨ H a = some (ExO (.ref D) a)) ∧ ExcC K D ∧ (∀ u, RelV c u → u = cv) ∧ PySem.W.kitOne K (.ref D) cv = some b ∧ Q (.bl b) H
theorem call_isX : CallR X (.builtin "isinstance") (rIsX X.K) := by
  intro pins s σ H xs us Q I r h
  obtain ⟨a, D, c, cv, b, rfl, hE, C, hcv, e, q⟩ := h
  cases r with
  | cons rx rr =>
    cases rr with
    | cons rt rr =>
      cases rr
      cases rx
      have ec := hcv _ rt
      subst ec
      obtain ⟨cdD, hcD, _⟩ := PySem.W.any_some C.hd
      have hcl : (PySem.W.clsIn X.K D).isSome = true := by rw [hcD]; rfl
      rcases hE with ⟨fs, dx, ea, ed⟩ | ea
      · obtain ⟨⟨t, ha⟩, _⟩ := I.hok a _ ea
        have hx : ObjOk X.prog X.w H s.heap dx (.xd fs) := I.hok dx _ ed
        obtain ⟨mA, hns, hr⟩ := hx
        obtain ⟨od, ho, hl⟩ := lookIn_ns hns
        have J : PySem.W.InstAt s.heap a { cls := .ref D, dict := some dx, data := .fields #[.ref t, .none, .none, .none, .bool false, .none] } D (some od) := ⟨ha, rfl, rfl, ho⟩
        exact PySem.W.kia_one (PySem.W.kitx_exc hcl C.hg C.hk C.hs C.ha C.hn C.ht C.hm) I.kIn J e (fun z => nomatch z) fun tk => ⟨.bl b, H, I.kept (t' := tk) fun _ _ z => z, rfl, q⟩
      · obtain ⟨⟨oe, vs, ho, hz, hd, _⟩, _⟩ := I.hok a _ ea
        have J : PySem.W.InstAt s.heap a oe D none := by
          obtain ⟨oc, od, oda, osl⟩ := oe
          obtain ⟨h1, h2⟩ := hz
          dsimp only at h1 h2 hd
          subst h1 h2 hd
          exact ⟨ho, rfl, rfl, trivial⟩
        exact PySem.W.kia_one (PySem.W.kitx_exc hcl C.hg C.hk C.hs C.ha C.hn C.ht C.hm) I.kIn J e (fun z => nomatch z) fun tk => ⟨.bl b, H, I.kept (t' := tk) fun _ _ z => z, rfl, q⟩
end
end L2

namespace L2
open PySem PySem.Spec PyProof.Rows
/-! ### data with dicts; repr of it -/
def kD : Key → PyData
  | .inl i => .int i
  | .inr x => .str x
mutual
inductive Dv (K : PySem.W.Frag) (H : Hp) : V → PyData → Prop
  | non : Dv K H .non .none
  | bl (b : Bool) : Dv K H (.bl b) (.bool b)
  | int (i : Int) : Dv K H (.int i) (.int i)
  | str (x : Str) : Dv K H (.str x) (.str x)
  | lst {a : Addr} {xs : List V} {ds : List PyData} : SqL K H a xs → DvAll K H xs ds → Dv K H (.ref a) (.list ds)
  | tup {a : Addr} {xs : List V} {ds : List PyData} : SqT K H a xs → DvAll K H xs ds → Dv K H (.ref a) (.tuple ds)
  | dic {a : Addr} {kvs : List (Key × V)} {ds : List PyData} : H a = some (.dK kvs) → DvAll K H (kvs.map (·.2)) ds → Dv K H (.ref a) (.dict ((kvs.map fun p => kD p.1).zip ds))
inductive DvAll (K : PySem.W.Frag) (H : Hp) : List V → List PyData → Prop
  | nil : DvAll K H [] []
  | cons {v : V} {vs : List V} {d : PyData} {ds : List PyData} : Dv K H v d → DvAll K H vs ds → DvAll K H (v :: vs) (d :: ds)
end
theorem SqL.mono {K : PySem.W.Frag} {H H' : Hp} {a : Addr} {xs : List V} (k : ∀ a o, H a = some o → H' a = some o) : SqL K H a xs → SqL K H' a xs
  | .inl (.inl e) => .inl (.inl (k _ _ e))
  | .inl (.inr ⟨o, e⟩) => .inl (.inr ⟨o, k _ _ e⟩)
  | .inr r => .inr r
theorem SqT.mono {K : PySem.W.Frag} {H H' : Hp} {a : Addr} {xs : List V} (k : ∀ a o, H a = some o → H' a = some o) : SqT K H a xs → SqT K H' a xs
  | .inl (.inl e) => .inl (.inl (k _ _ e))
  | .inl (.inr ⟨o, e⟩) => .inl (.inr ⟨o, k _ _ e⟩)
  | .inr r => .inr r
theorem Dv.mono {K : PySem.W.Frag} {H H' : Hp} {v : V} {d : PyData} (k : ∀ a o, H a = some o → H' a = some o) (h : Dv K H v d) : Dv K H' v d :=
  Dv.rec (motive_1 := fun v d _ => Dv K H' v d) (motive_2 := fun vs ds _ => DvAll K H' vs ds) .non .bl .int .str (fun e _ q => .lst (SqL.mono k e) q) (fun e _ q => .tup (SqT.mono k e) q) (fun e _ q => .dic (k _ _ e) q) .nil (fun _ _ p q => .cons p q) h
theorem DvAll.mono {K : PySem.W.Frag} {H H' : Hp} (k : ∀ a o, H a = some o → H' a = some o) : ∀ {vs : List V} {ds : List PyData}, DvAll K H vs ds → DvAll K H' vs ds
  | _, _, .nil => .nil
  | _, _, .cons p q => .cons (p.mono k) (DvAll.mono k q)
theorem DvAll.length {K : PySem.W.Frag} {H : Hp} : ∀ {vs : List V} {ds : List PyData}, DvAll K H vs ds → vs.length = ds.length
  | _, _, .nil => rfl
  | _, _, .cons _ q => by rw [List.length_cons, List.length_cons, q.length]
theorem pairs_keys {P : Program} {w : World} {h : Heap} : ∀ {es : List DictEntry} {kvs : List (Key × Value)}, Pairs (mixKind P w) es kvs → ReadsAll h (es.map (·.key)) (kvs.map fun p => kD p.1) [] ∧ es.map (·.val) = kvs.map (·.2)
  | _, _, .nil => ⟨.nil, rfl⟩
  | e :: es, kv :: kvs, .cons h1 h2 h3 => by
    obtain ⟨r, v⟩ := pairs_keys (h := h) h3
    refine ⟨?_, by rw [List.map_cons, List.map_cons, v, h2]⟩
    rcases keyIs_shape (k := kv.1) (v := e.key) h1 with ⟨i, t, ek, ev⟩ | ⟨x, t, ek, ev⟩
    · have z : ReadsAll h (e.key :: es.map (·.key)) (.int i :: kvs.map fun p => kD p.1) ([] ++ []) := ReadsAll.cons (by rw [ev]; exact Reads.int i t) r
      rw [List.map_cons, List.map_cons, ek]
      exact z
    · have z : ReadsAll h (e.key :: es.map (·.key)) (.str x :: kvs.map fun p => kD p.1) ([] ++ []) := ReadsAll.cons (by rw [ev]; exact Reads.str x t) r
      rw [List.map_cons, List.map_cons, ek]
      exact z
theorem kv_split : ∀ {kvs : List (Key × V)} {vs : List (Key × Value)}, KV kvs vs → (kvs.map fun p => kD p.1) = (vs.map fun p => kD p.1) ∧ Vals (kvs.map (·.2)) (vs.map (·.2))
  | _, _, .nil => ⟨rfl, .nil⟩
  | _, _, .cons ⟨e, r⟩ t => by
    obtain ⟨a, b⟩ := kv_split t
    exact ⟨by rw [List.map_cons, List.map_cons, e, a], .cons r b⟩
theorem zip_fst {α β : Type} : ∀ {xs : List α} {ys : List β}, xs.length = ys.length → (xs.zip ys).map (·.1) = xs ∧ (xs.zip ys).map (·.2) = ys
  | [], [], _ => ⟨rfl, rfl⟩
  | x :: xs, y :: ys, h => by
    obtain ⟨a, b⟩ := zip_fst (xs := xs) (ys := ys) (by simpa using h)
    exact ⟨by rw [List.zip_cons_cons, List.map_cons, a], by rw [List.zip_cons_cons, List.map_cons, b]⟩
section
variable {X : Cx} {pins : List (Addr × Obj)} {σ : St} {H : Hp} {s : Shared}
/-- the table of modules is a dict that K tells -/
def SysD (K : PySem.W.Frag) : Prop := ∃ o, K.lookup sysModules = some o ∧ o.cls = .type "dict"
theorem Dv.reads (I : Inv X pins σ H s) (hS : SysD X.K) {v : V} {d : PyData} (h : Dv X.K H v d) : ∀ u : Value, RelV v u → ∃ as, Reads s.heap u d as ∧ sysModules ∉ as := by
  refine Dv.rec (motive_1 := fun v d _ => ∀ u : Value, RelV v u → ∃ as, Reads s.heap u d as ∧ sysModules ∉ as) (motive_2 := fun vs ds _ => ∀ us : List Value, Vals vs us → ∃ as, ReadsAll s.heap us ds as ∧ sysModules ∉ as)
    (fun u r => ?_) (fun b u r => ?_) (fun i u r => ?_) (fun x u r => ?_) (fun {a xs ds} e _ q u r => ?_) (fun {a xs ds} e _ q u r => ?_) (fun {a kvs ds} e hd q u r => ?_) (fun us r => ?_) (fun {v vs d ds} _ _ p q us r => ?_) h
  · cases r
    exact ⟨_, Reads.none, List.not_mem_nil⟩
  · cases r
    exact ⟨_, Reads.bool b, List.not_mem_nil⟩
  · obtain ⟨t, rfl⟩ := r
    exact ⟨_, Reads.int i t, List.not_mem_nil⟩
  · obtain ⟨t, rfl⟩ := r
    exact ⟨_, Reads.str x t, List.not_mem_nil⟩
  · cases r
    obtain ⟨its, rv, ⟨o, n, ho, hc, _, hd⟩, _⟩ := I.list e
    obtain ⟨as, hr, hn⟩ := q _ rv
    refine ⟨_, Reads.list ho hc hd hr, fun z => ?_⟩
    rcases List.mem_cons.mp z with z | z
    · obtain ⟨oS, h1, h2⟩ := hS
      rw [z] at h1
      have e2 := I.kIn _ _ h1
      rw [ho] at e2
      cases e2
      rw [hc] at h2
      exact absurd h2 (by decide)
    · exact hn z
  · cases r
    obtain ⟨its, rv, ⟨o, ho, hc, n, hd⟩, _⟩ := I.tuple e
    obtain ⟨as, hr, hn⟩ := q _ rv
    exact ⟨_, Reads.tuple ho hc hd hr, hn⟩
  · cases r
    obtain ⟨_, hns, vs, rel, o, es, ep, ho, hx, hdat, _, hp, _⟩ := dk_of I.hok e
    obtain ⟨r1, e1⟩ := pairs_keys (h := s.heap) hp
    obtain ⟨e2, rv⟩ := kv_split rel
    obtain ⟨as, hr, hn⟩ := q _ rv
    have hl : (kvs.map fun p => kD p.1).length = ds.length := by
      rw [List.length_map, ← hd.length, List.length_map]
    obtain ⟨z1, z2⟩ := zip_fst hl
    refine ⟨_, Reads.dict ho hx.1 hdat (as := []) (bs := as) ?_ ?_, fun z => ?_⟩
    · rw [z1, e2]
      exact r1
    · rw [z2, e1]
      exact hr
    · rcases List.mem_cons.mp z with z | z
      · rw [← z] at hns
        exact absurd hns (by decide)
      · exact hn z
  · cases r
    exact ⟨_, ReadsAll.nil, List.not_mem_nil⟩
  · cases r with
    | cons r1 r2 =>
      obtain ⟨as, a1, a2⟩ := p _ r1
      obtain ⟨bs, b1, b2⟩ := q _ r2
      exact ⟨_, ReadsAll.cons a1 b1, fun z => (List.mem_append.mp z).elim a2 b2⟩
/-- repr(x), x a list, a tuple, a dict -/
def rRepr (K : PySem.W.Frag) : List V → Hp → VK → Prop := fun xs H Q => ∃ (a : Addr) (d : PyData), xs = [.ref a] ∧ Dv K H (.ref a) d ∧ d.showable = true ∧ d.depth ≤ 64 ∧ d.shown.length ≤ 16777216 ∧ Q (.str d.shown) H
theorem call_repr (hg : X.A.guards = some []) (hu : X.A.units + 100 < cLine) (hS : SysD X.K) : CallR X (.builtin "repr") (rRepr X.K) := by
  intro pins s σ H xs us Q I r h
  obtain ⟨a, d, rfl, hd, h1, h2, h3, q⟩ := h
  cases r with
  | cons rx rr =>
    cases rr
    cases rx
    obtain ⟨as, hr, hn⟩ := hd.reads I hS _ rfl
    exact repr_of_reads' hr h1 (fun _ => hn) hg (by omega) (fun _ _ e => e) (fun h' u tk k => ⟨.str d.shown, H, I.kept (t' := tk) k, ⟨u, rfl⟩, q⟩) (by rw [sizeLine_eq]; exact h3)
end
/-! ### dict(enumerate(xs)) -/
def enumK {α : Type} : Nat → List α → List (Key × α)
  | _, [] => []
  | i, x :: xs => (.inl (i : Int), x) :: enumK (i + 1) xs
theorem enumK_get {α : Type} : ∀ {xs : List α} {i j : Nat} {x : α}, xs[j]? = some x → (enumK i xs)[j]? = some (.inl ((i + j : Nat) : Int), x)
  | [], _, _, _, h => by simp at h
  | y :: ys, i, 0, x, h => by
    simp at h
    subst h
    rfl
  | y :: ys, i, j + 1, x, h => by
    have z := enumK_get (xs := ys) (i := i + 1) (j := j) (x := x) (by simpa using h)
    have e : i + 1 + j = i + (j + 1) := by omega
    rw [e] at z
    exact z
theorem enumK_length {α : Type} : ∀ (xs : List α) (i : Nat), (enumK i xs).length = xs.length
  | [], _ => rfl
  | _ :: xs, i => by rw [enumK, List.length_cons, List.length_cons, enumK_length]
theorem enumK_lt {α : Type} : ∀ {xs : List α} {i : Nat} {k : Key}, k ∈ (enumK i xs).map (·.1) → ∃ n : Nat, i ≤ n ∧ k = .inl (n : Int)
  | [], _, _, h => by cases h
  | _ :: xs, i, k, h => by
    rcases List.mem_cons.mp (show k ∈ (Sum.inl (i : Int)) :: (enumK (i + 1) xs).map (·.1) from h) with h | h
    · exact ⟨i, Nat.le_refl _, h⟩
    · obtain ⟨n, hn, e⟩ := enumK_lt h
      exact ⟨n, by omega, e⟩
theorem enumK_nodup {α : Type} : ∀ (xs : List α) (i : Nat), ((enumK i xs).map (·.1)).Nodup
  | [], _ => List.nodup_nil
  | _ :: xs, i => by
    show ((Sum.inl (i : Int) : Key) :: (enumK (i + 1) xs).map (·.1)).Nodup
    refine List.nodup_cons.mpr ⟨fun h => ?_, enumK_nodup xs (i + 1)⟩
    obtain ⟨n, hn, e⟩ := enumK_lt h
    have e' := Sum.inl.inj e
    omega
theorem enumK_vals {α : Type} : ∀ (xs : List α) (i : Nat), (enumK i xs).map (·.2) = xs
  | [], _ => rfl
  | _ :: xs, i => by rw [enumK, List.map_cons, enumK_vals]
theorem enumK_kv : ∀ {xs : List V} {us : List Value} (i : Nat), Vals xs us → KV (enumK i xs) (enumK i us)
  | _, _, _, .nil => .nil
  | _, _, i, .cons r t => .cons ⟨rfl, r⟩ (enumK_kv (i + 1) t)
section
variable {X : Cx}
def tDEnum (K : PySem.W.Frag) (ta : TA) : TE := fun σ H Q => ta σ H fun vs H1 => ∃ a xs, vs = [.ref a] ∧ SqL K H1 a xs ∧ ∀ p, H1 p = none → Q (.ref p) (upd H1 p (.dK (enumK 0 xs)))
theorem pe_dEnum {e : Expr} {ta : TA} {p p2 pos pos2 : Pos} (hc : X.calm = true) (hg : Gl X "enumerate") (hm : X.mg "enumerate" = none) (hg2 : Gl X "dict") (hm2 : X.mg "dict" = none) (ha : PA X [e] ta) (hs : starEach [e] X.env = [(false, eval e X.env)] := by rfl)
    (hs2 : starEach [.Call (.Name "enumerate" p) [e] [] pos] X.env = [(false, eval (.Call (.Name "enumerate" p) [e] [] pos) X.env)] := by rfl) :
    PE X (.Call (.Name "dict" p2) [.Call (.Name "enumerate" p) [e] [] pos] [] pos2) (tDEnum X.K ta) := by
  refine ⟨fun pins s σ H Q I h => ?_⟩
  refine Call_ (ld_blt I hg2 hm2 PyProof.Rows.boot_dict (PyProof.Rows.callWith_type1 ?_ hs2 rfl))
  rw [hs2]
  show wpAny _ _ (spliced ((false, eval (.Call (.Name "enumerate" p) [e] [] pos) X.env) :: backTo pos2 [])) _ _ s
  refine Calls.spliced_cons ?_
  refine Call_ (ld_blt I hg hm boot_enumerate (PyProof.Rows.callWith_type1 (thn (ha.run pos pins s σ H _ I h) fun us s1 ⟨vs, H1, I1, r1, q1⟩ => ?_) hs rfl))
  obtain ⟨a, xs, ex, hq, q⟩ := q1
  subst ex
  cases r1 with
  | cons r rr =>
    cases rr
    cases r
    obtain ⟨its, rv, p', hz⟩ := I1.list hq
    refine call_enumerate_list p'.isList fun h' he hit hsz hk => Calls.spliced_nil ?_
    have lt : a < s1.heap.objs.size := by
      obtain ⟨o, n, ho, _⟩ := p'
      exact Heap.lt_size ho
    have P := PairArg.enumerate (prog := X.prog) (w := X.w) (s1.heap.objs.size + 1) s1.heap.objs.size a (Nat.succ_ne_self _) (Nat.ne_of_lt (Nat.lt_succ_of_lt lt)) (Nat.ne_of_lt lt) its.toArray
    have lis : h'.IsList a its.toArray := p'.isList.at fun o e => hk a o e
    have hlen : its.toArray.size ≤ sizeLine := by rw [List.size_toArray, ← rv.length]; exact hz
    refine _root_.PySem.call_dict_pairs (s := { s1 with heap := h' }) (knd := mixKind X.prog X.w) (kvs := enumK 0 its) P (I.ok.hd hc) ⟨⟨_, he⟩, hit, lis⟩ ⟨by rw [enumK_length, List.size_toArray], fun i key v ⟨⟨t, ek⟩, ev⟩ => ?_⟩ hlen fun h2 tk hd' k2 => ?_
    · refine ⟨.inl (i : Int), ?_, ?_⟩
      · have z := enumK_get (i := 0) (xs := its) (j := i) (x := v) (by simpa using ev)
        rw [Nat.zero_add] at z
        exact z
      · rw [ek]
        exact keyIs_int (i : Int) t
    · have k3 : ∀ b o, s1.heap.get? b = some o → h2.get? b = some o := fun b o e => k2 b o (fun z => by
        have lb := Heap.lt_size e
        simp only [List.mem_cons, List.not_mem_nil, or_false] at z
        rcases z with z | z
        · rw [z] at lb
          exact absurd lb (Nat.not_lt.mpr (Nat.le_succ _))
        · rw [z] at lb
          exact absurd lb (Nat.lt_irrefl _)) (hk b o e)
      have big : s1.heap.objs.size ≤ h'.objs.size := by
        show s1.heap.objs.size ≤ h'.objs.size
        rw [hsz]
        omega
      have hm : (h'.objs.size == sysModules) = false := beq_eq_false_iff_ne.mpr (Nat.ne_of_gt (Nat.lt_of_lt_of_le I1.big big))
      have ob : ObjOk X.prog X.w (upd H1 h'.objs.size (.dK (enumK 0 xs))) h2 h'.objs.size (.dK (enumK 0 xs)) := by
        refine ⟨by rw [enumK_length]; exact hz, hm, enumK 0 its, enumK_kv 0 rv, ?_⟩
        rw [merged_nil_of_nodup _ (enumK_nodup _ _)] at hd'
        exact hd'
      exact ⟨.ref h'.objs.size, _, I1.laid (t' := tk) k3 big ob, rfl, q _ (I1.hok.fresh big)⟩
end
end L2

namespace My
open PySem PySem.Spec PyProof.Rows L2
/-! ### how large drawn data may be -/
def Lm (n : Nat) : Nat := 100 * 4 ^ n
theorem Lm_succ (n : Nat) : Lm (n + 1) = 4 * Lm n := by unfold Lm; rw [Nat.pow_succ]; omega
theorem Lm_big (n : Nat) : 100 ≤ Lm n := by
  induction n with
  | zero => exact Nat.le_refl _
  | succ n ih => rw [Lm_succ]; omega
structure Sz (n : Nat) (d : PyData) : Prop where
  sh : d.showable = true
  dp : d.depth ≤ n + 1
  ln : d.shown.length ≤ Lm n
theorem Sz.mono {m n : Nat} {d : PyData} (h : Sz m d) (e : m ≤ n) : Sz n d := by
  induction n with
  | zero =>
    have e' : m = 0 := by omega
    rw [← e']
    exact h
  | succ n ih =>
    by_cases q : m = n + 1
    · rw [← q]
      exact h
    · have z := ih (by omega)
      exact ⟨z.sh, Nat.le_succ_of_le z.dp, by rw [Lm_succ]; have := z.ln; omega⟩
theorem shAll {P : PyData → Prop} (hs : ∀ d, P d → d.showable = true) : ∀ {ds : List PyData}, (∀ d ∈ ds, P d) → PyData.showableAll ds = true
  | [], _ => by simp only [PyData.showableAll]
  | d :: ds, h => by
    have a := hs d (h d List.mem_cons_self)
    have b := shAll hs (ds := ds) fun x hx => h x (List.mem_cons_of_mem _ hx)
    simp only [PyData.showableAll, a, b, Bool.and_self]
theorem dpAll {m : Nat} : ∀ {ds : List PyData}, (∀ d ∈ ds, d.depth ≤ m) → PyData.depthAll ds ≤ m
  | [], _ => by simp only [PyData.depthAll]; exact Nat.zero_le _
  | d :: ds, h => by
    have a := h d List.mem_cons_self
    have b := dpAll (ds := ds) fun x hx => h x (List.mem_cons_of_mem _ hx)
    simp only [PyData.depthAll]
    omega
theorem lnAll {m : Nat} : ∀ {ds : List PyData}, (∀ d ∈ ds, d.shown.length ≤ m) → ((PyData.shownAll ds).map (·.length)).sum ≤ ds.length * m ∧ (PyData.shownAll ds).length = ds.length
  | [], _ => by simp [PyData.shownAll]
  | d :: ds, h => by
    have a := h d List.mem_cons_self
    obtain ⟨b, c⟩ := lnAll (ds := ds) fun x hx => h x (List.mem_cons_of_mem _ hx)
    simp only [PyData.shownAll, List.map_cons, List.sum_cons, List.length_cons, c, and_true]
    rw [Nat.add_mul]
    omega
theorem sz_seq {n k : Nat} {ds : List PyData} (h : ∀ d ∈ ds, Sz n d) : PyData.showable (.list ds) = true ∧ PyData.depth (.list ds) ≤ n + 2 ∧ (PyData.shown (.list ds)).length ≤ ds.length * (Lm n + 2) + 3 := by
  obtain ⟨a, b⟩ := lnAll (m := Lm n) (ds := ds) fun d hd => (h d hd).ln
  refine ⟨by simp only [PyData.showable]; exact shAll (fun d q => q.sh) h, by simp only [PyData.depth]; exact Nat.succ_le_succ (dpAll fun d hd => (h d hd).dp), ?_⟩
  have z := listText_len_le (PyData.shownAll ds)
  simp only [PyData.shown]
  rw [b] at z
  have e : ds.length * (Lm n + 2) = ds.length * Lm n + 2 * ds.length := by rw [Nat.mul_add]; omega
  omega
theorem sz_list {n : Nat} {ds : List PyData} (h : ∀ d ∈ ds, Sz n d) (hl : ds.length ≤ 2) : Sz (n + 1) (.list ds) := by
  obtain ⟨a, b, c⟩ := sz_seq (k := 0) h
  refine ⟨a, b, ?_⟩
  have := Lm_big n
  rw [Lm_succ]
  have e : ds.length * (Lm n + 2) ≤ 2 * (Lm n + 2) := Nat.mul_le_mul_right _ hl
  omega
theorem sz_tuple {n : Nat} {ds : List PyData} (h : ∀ d ∈ ds, Sz n d) (hl : ds.length ≤ 2) : Sz (n + 1) (.tuple ds) := by
  obtain ⟨x, y⟩ := lnAll (m := Lm n) (ds := ds) fun d hd => (h d hd).ln
  refine ⟨by simp only [PyData.showable]; exact shAll (fun d q => q.sh) h, by simp only [PyData.depth]; exact Nat.succ_le_succ (dpAll fun d hd => (h d hd).dp), ?_⟩
  have z := tupleText_len_le (PyData.shownAll ds)
  have := Lm_big n
  rw [Lm_succ]
  simp only [PyData.shown]
  rw [y] at z
  have e : ds.length * Lm n ≤ 2 * Lm n := Nat.mul_le_mul_right _ hl
  omega
theorem sz_dict {n : Nat} {ds : List PyData} (h : ∀ d ∈ ds, Sz n d) (hl : ds.length ≤ 2) : Sz (n + 1) (.dict (((enumK 0 ds).map fun p => kD p.1).zip ds)) := by
  have := Lm_big n
  match ds, hl with
  | [], _ => exact ⟨by decide +kernel, by simp [enumK, PyData.depth, PyData.depthKv], by
      show (PyData.shown (.dict [])).length ≤ _
      have e : (PyData.shown (.dict [])).length = 2 := by decide +kernel
      rw [e, Lm_succ]
      omega⟩
  | [a], _ =>
    have ha := h a List.mem_cons_self
    refine ⟨?_, ?_, ?_⟩
    · show PyData.showable (.dict [(.int 0, a)]) = true
      simp only [PyData.showable, PyData.showableKv, ha.sh, Bool.and_true]
      decide
    · show PyData.depth (.dict [(.int 0, a)]) ≤ n + 1 + 1
      have := ha.dp
      simp only [PyData.depth, PyData.depthKv]
      omega
    · show (PyData.shown (.dict [(.int 0, a)])).length ≤ _
      have := ha.ln
      have z := dictText_len_le (PyData.shownKv [(.int 0, a)])
      have e0 : (PyData.shown (.int 0)).length = 1 := by decide +kernel
      have e1 : ((": " : String) : Str).length = 2 := by decide +kernel
      simp only [PyData.shownKv, List.map_cons, List.map_nil, List.sum_cons, List.sum_nil, List.length_cons, List.length_nil, strLen_append, e0, e1] at z
      have q : (PyData.shown (.dict [(.int 0, a)])).length = (dictText [PyData.shown (.int 0) ++ ((": " : String) : Str) ++ PyData.shown a]).length := by
        simp only [PyData.shown, PyData.shownKv]
      rw [q, Lm_succ]
      omega
  | [a, b], _ =>
    have ha := h a List.mem_cons_self
    have hb := h b (List.mem_cons_of_mem _ List.mem_cons_self)
    refine ⟨?_, ?_, ?_⟩
    · show PyData.showable (.dict [(.int 0, a), (.int 1, b)]) = true
      simp only [PyData.showable, PyData.showableKv, ha.sh, hb.sh, Bool.and_true]
      decide
    · show PyData.depth (.dict [(.int 0, a), (.int 1, b)]) ≤ n + 1 + 1
      have := ha.dp
      have := hb.dp
      simp only [PyData.depth, PyData.depthKv]
      omega
    · show (PyData.shown (.dict [(.int 0, a), (.int 1, b)])).length ≤ _
      have := ha.ln
      have := hb.ln
      have z := dictText_len_le (PyData.shownKv [(.int 0, a), (.int 1, b)])
      have e0 : (PyData.shown (.int 0)).length = 1 := by decide +kernel
      have e2 : (PyData.shown (.int 1)).length = 1 := by decide +kernel
      have e1 : ((": " : String) : Str).length = 2 := by decide +kernel
      simp only [PyData.shownKv, List.map_cons, List.map_nil, List.sum_cons, List.sum_nil, List.length_cons, List.length_nil, strLen_append, e0, e1, e2] at z
      have q : (PyData.shown (.dict [(.int 0, a), (.int 1, b)])).length = (dictText [PyData.shown (.int 0) ++ ((": " : String) : Str) ++ PyData.shown a, PyData.shown (.int 1) ++ ((": " : String) : Str) ++ PyData.shown b]).length := by
        simp only [PyData.shown, PyData.shownKv]
      rw [q, Lm_succ]
      omega
theorem sz_non : Sz 0 .none := ⟨by decide +kernel, by decide +kernel, by decide +kernel⟩
theorem sz_bl (b : Bool) : Sz 0 (.bool b) := by cases b <;> exact ⟨by decide +kernel, by decide +kernel, by decide +kernel⟩
theorem sz_0 : Sz 0 (.int 0) := ⟨by decide +kernel, by decide +kernel, by decide +kernel⟩
theorem sz_1 : Sz 0 (.int 1) := ⟨by decide +kernel, by decide +kernel, by decide +kernel⟩
theorem sz_m7 : Sz 0 (.int (-7)) := ⟨by decide +kernel, by decide +kernel, by decide +kernel⟩
theorem sz_big : Sz 0 (.int ((10 : Int) ^ (40 : Int).toNat * (10 : Int) ^ (39 : Int).toNat)) := ⟨by decide +kernel, by decide +kernel, by decide +kernel⟩
theorem sz_e : Sz 0 (.str (PySem.Str.ofString "")) := ⟨by decide +kernel, by decide +kernel, by decide +kernel⟩
theorem sz_o : Sz 0 (.str (PySem.Str.ofString "one")) := ⟨by decide +kernel, by decide +kernel, by decide +kernel⟩
theorem sz_x : Sz 0 (.tuple [.str (PySem.Str.ofString "x")]) := ⟨by decide +kernel, by decide +kernel, by decide +kernel⟩
end My

namespace My
open PySem PySem.Spec PyProof.Rows L2
open C8 (pss_cut tCut)
abbrev sValue : Stmt := top 24
structure Bl2 (mg : Str → Option Value) : Prop extends Bl mg where
  range : mg "range" = none
  tuple : mg "tuple" = none
  dict : mg "dict" = none
  enum : mg "enumerate" = none
  isin : mg "isinstance" = none
  repr : mg "repr" = none
/-- some, at a -/
def Sq (K : PySem.W.Frag) (H : Hp) (a : Addr) (xs : List V) : Prop := SqL K H a xs ∨ SqT K H a xs
theorem But.sqL {p : Addr} {H H' : Hp} {K : PySem.W.Frag} {a : Addr} {xs : List V} (k : But p H H') (h : a ≠ p) : SqL K H a xs → SqL K H' a xs
  | .inl (.inl e) => .inl (.inl (k _ _ h e))
  | .inl (.inr ⟨o, e⟩) => .inl (.inr ⟨o, k _ _ h e⟩)
  | .inr r => .inr r
theorem But.sqT {p : Addr} {H H' : Hp} {K : PySem.W.Frag} {a : Addr} {xs : List V} (k : But p H H') (h : a ≠ p) : SqT K H a xs → SqT K H' a xs
  | .inl (.inl e) => .inl (.inl (k _ _ h e))
  | .inl (.inr ⟨o, e⟩) => .inl (.inr ⟨o, k _ _ h e⟩)
  | .inr r => .inr r
theorem But.sq {p : Addr} {H H' : Hp} {K : PySem.W.Frag} {a : Addr} {xs : List V} (k : But p H H') (h : a ≠ p) : Sq K H a xs → Sq K H' a xs
  | .inl e => .inl (k.sqL h e)
  | .inr e => .inr (k.sqT h e)
theorem But.trans {p : Addr} {H H' H2 : Hp} (a : But p H H') (b : But p H' H2) : But p H H2 := fun c o h e => b c o h (a c o h e)
theorem But.refl {p : Addr} {H : Hp} : But p H H := fun _ _ _ e => e
theorem But.new {p q : Addr} {H : Hp} {o : HO} (h : H q = none) : But p H (upd H q o) := fun c u _ e => by rw [upd_ne (ne_of_none e h)]; exact e
/-- without the pen -/
theorem But.del {p : Addr} {H H' : Hp} (k : But p H H') : ∀ a o, delH H p a = some o → delH H' p a = some o := fun a o e => by
  by_cases h : a = p
  · rw [h, delH_same] at e
    cases e
  · rw [delH_ne h] at e ⊢
    exact k a o h e
theorem delH_sub {p : Addr} {H : Hp} : ∀ a o, delH H p a = some o → H a = some o := fun a o e => by
  by_cases h : a = p
  · rw [h, delH_same] at e
    cases e
  · rw [delH_ne h] at e
    exact e
theorem delH_of {p a : Addr} {H : Hp} {o : HO} (h : a ≠ p) (e : H a = some o) : delH H p a = some o := by rw [delH_ne h]; exact e
theorem Pen.ne {H : Hp} {p c a : Addr} {b : Nat} (h : Pen H p c b) (e : H a = none) : a ≠ p := by
  obtain ⟨ns, t, r, h1, _⟩ := h
  exact (ne_of_none h1 e).symm
theorem Pen.nec {H : Hp} {p c a : Addr} {b : Nat} (h : Pen H p c b) (e : H a = none) : a ≠ c := by
  obtain ⟨ns, t, r, h1, h2, _⟩ := h
  exact (ne_of_none h2 e).symm
theorem Pen.upd {H : Hp} {p c q : Addr} {b : Nat} {o : HO} (h : Pen H p c b) (e : H q = none) : Pen (upd H q o) p c b := h.keep fun a u z => by rw [upd_ne (ne_of_none z e)]; exact z
def spPick (K : PySem.W.Frag) : Sp := fun vs H Q _ => ∃ (p c a : Addr) (b : Nat) (xs : List V), vs = [.ref p, .ref a] ∧ a ≠ p ∧ Sq K H a xs ∧ 0 < xs.length ∧ xs.length ≤ 1099511627776 ∧ Pen H p c (b + 1) ∧
  ∀ (i : Nat) x H', xs[i]? = some x → But p H H' → Pen H' p c b → Q x H'
section
variable {P : Program} {w : World} {K : PySem.W.Frag} {mg : Str → Option Value} {base : Heap}
theorem bindsDraw {f : Addr} {fd : FuncData} (F : Fun K "_law_draw" "_law_draw" sDraw f fd) : Binds K fd ["pen", "many"] [] := F.binds fun _ _ _ _ _ _ us hl => match us, hl with | [_, _], _ => rfl
theorem bindsPick {f : Addr} {fd : FuncData} (F : Fun K "_law_pick" "_law_pick" sPick f fd) : Binds K fd ["pen", "some"] [] := F.binds fun _ _ _ _ _ _ us hl => match us, hl with | [_, _], _ => rfl
theorem bindsPen {f : Addr} {fd : FuncData} (F : Fun K "_law_pen" "_law_pen" sPen f fd) : Binds K fd ["script"] [] := F.binds fun _ _ _ _ _ _ us hl => match us, hl with | [_], _ => rfl
theorem scPick : FnScope ["pen", "some"] ["pen", "some"] (defScope sPick) := ⟨rfl, rfl, rfl, by decide +kernel, rfl, by decide +kernel, by decide +kernel⟩
/-- what a call of the drawing function may be built on -/
structure DrawF (P : Program) (w : World) (K : PySem.W.Frag) (mg : Str → Option Value) (base : Heap) (f : Addr) (fd : FuncData) : Prop where
  F : Fun K "_law_draw" "_law_draw" sDraw f fd
  gl : mg "_law_draw" = some (.ref f)
  ok : FnOk P w K mg base CX0 1 f fd ["pen", "many"] spDraw
theorem ok_pick {f fD : Addr} {fd fdD : FuncData} (F : Fun K "_law_pick" "_law_pick" sPick f fd) (D : DrawF P w K mg base fD fdD) (B : Bl mg) : FnOk P w K mg base CX0 2 f fd ["pen", "some"] (spPick K) := by
  refine F.ok scPick (fun vs H Q E h => ?_) (fun cdv A outer s H vs Q E hr h => ?_)
  · obtain ⟨p, c, a, b, xs, rfl, _⟩ := h
    rfl
  · obtain ⟨p, c, a, b, xs, rfl, nap, hS, l0, l1, hP, k⟩ := h
    have bD := bindsDraw D.F
    refine ⟨_, (pss_one (ps_ret (pe_ix ix_seq (pv 1) (pe_call D.ok (hr.mono (by omega)) rfl D.gl D.F.kp bD .nil pass0 (pa_cons (pv 0) (pa_cons (pe_callB call_len_seq (by rfl) B.len (by decide +kernel) (pa_cons (pv 1) pa_nil)) pa_nil))) (fun _ _ => rfl)))), ?_⟩
    refine ⟨_, rfl, _, rfl, _, rfl, a, xs, rfl, hS, ?_⟩
    refine ⟨p, c, b, _, rfl, hP, (by omega), (by omega), fun r H' r0 r1 kb hp' => ?_⟩
    have hS' := kb.sq nap hS
    have hi : r.toNat < xs.length := by omega
    have z := k r.toNat xs[r.toNat] H' (List.getElem?_eq_getElem hi) kb hp'
    have hat : atI xs r = some xs[r.toNat] := at_of (j := r.toNat) (by omega) (List.getElem?_eq_getElem hi)
    rcases hS' with e | e
    · exact .inl ⟨a, xs, r, _, rfl, rfl, e, hat, z⟩
    · exact .inr (.inl ⟨a, xs, r, _, rfl, rfl, e, hat, z⟩)
end
end My

namespace My
open PySem PySem.Spec PyProof.Rows L2
open C8 (pss_cut tCut)
/-- what is new -/
def nw (H H' : Hp) : Hp := fun a => match H a with
  | none => H' a
  | some _ => none
theorem nw_of {H H' : Hp} {a : Addr} {o : HO} (h : H a = none) (e : H' a = some o) : nw H H' a = some o := by unfold nw; rw [h]; exact e
theorem nw_to {H H' : Hp} {a : Addr} {o : HO} (e : nw H H' a = some o) : H a = none ∧ H' a = some o := by
  unfold nw at e
  cases h : H a with
  | none =>
    rw [h] at e
    exact ⟨rfl, e⟩
  | some u =>
    rw [h] at e
    cases e
theorem nw_but {p c : Addr} {H H' H2 : Hp} {b : Nat} (hp : Pen H p c b) (k : But p H' H2) : ∀ a o, nw H H' a = some o → nw H H2 a = some o := fun a o e => by
  obtain ⟨h1, h2⟩ := nw_to e
  exact nw_of h1 (k a o (hp.ne h1) h2)
theorem nw_sub {p : Addr} {H0 H H' : Hp} (k : But p H0 H) (hp : H p ≠ none) : ∀ a o, nw H H' a = some o → nw H0 H' a = some o := fun a o e => by
  obtain ⟨h1, h2⟩ := nw_to e
  refine nw_of ?_ h2
  cases q : H0 a with
  | none => rfl
  | some u =>
    by_cases h : a = p
    · rw [h] at h1
      exact absurd h1 hp
    · rw [k a u h q] at h1
      cases h1
theorem But.none {p : Addr} {H H' : Hp} {a : Addr} (k : But p H H') (h : a ≠ p) (e : H' a = none) : H a = none := by
  cases q : H a with
  | none => rfl
  | some u =>
    rw [k a u h q] at e
    cases e
theorem enumK_keys {α β : Type} : ∀ {xs : List α} {ys : List β} (i : Nat), xs.length = ys.length → ((enumK i xs).map fun p => kD p.1) = (enumK i ys).map fun p => kD p.1
  | [], [], _, _ => rfl
  | x :: xs, y :: ys, i, h => by
    show kD (.inl (i : Int)) :: _ = kD (.inl (i : Int)) :: _
    rw [enumK_keys (xs := xs) (ys := ys) (i + 1) (by simpa using h)]
theorem dv_snoc {K : PySem.W.Frag} {H : Hp} {v : V} {d : PyData} (h : Dv K H v d) : ∀ {vs : List V} {ds : List PyData}, DvAll K H vs ds → DvAll K H (vs ++ [v]) (ds ++ [d])
  | _, _, .nil => .cons h .nil
  | _, _, .cons a b => .cons a (dv_snoc h b)
def cV : Nat → Nat
  | 0 => 1
  | n + 1 => 2 * cV n + 2
theorem cV_pos (n : Nat) : 1 ≤ cV n := by cases n <;> simp [cV] 
def spVal (K : PySem.W.Frag) (n : Nat) : Sp := fun vs H Q _ => ∃ (p l : Addr) (b : Nat), vs = [.ref p, .int (n : Int)] ∧ Pen H p l (b + cV n) ∧
  ∀ v d H', Sz n d → Dv K (nw H H') v d → But p H H' → Pen H' p l b → Q v H'
section
variable {P : Program} {w : World} {K : PySem.W.Frag} {mg : Str → Option Value} {base : Heap}
theorem scValue : FnScope ["pen", "deep", "way", "inner", "turn"] ["pen", "deep"] (defScope sValue) := ⟨rfl, rfl, rfl, by decide +kernel, rfl, by decide +kernel, by decide +kernel⟩
theorem bindsValue {f : Addr} {fd : FuncData} (F : Fun K "_law_value" "_law_value" sValue f fd) : Binds K fd ["pen", "deep"] [] := F.binds fun _ _ _ _ _ _ us hl => match us, hl with | [_, _], _ => rfl
theorem ok_val_step {n : Nat} {spR : Sp} {f fD fP : Addr} {fd fdD fdP : FuncData} (F : Fun K "_law_value" "_law_value" sValue f fd) (mV : mg "_law_value" = some (.ref f)) (D : DrawF P w K mg base fD fdD)
    (FP : Fun K "_law_pick" "_law_pick" sPick fP fdP) (mP : mg "_law_pick" = some (.ref fP)) (GP : FnOk P w K mg base CX0 2 fP fdP ["pen", "some"] (spPick K)) (B : Bl2 mg)
    (hR : n = 0 ∨ ∃ m, n = m + 1 ∧ spR = spVal K m) (GV : FnOk P w K mg base CX0 (n + 2) f fd ["pen", "deep"] spR) : FnOk P w K mg base CX0 (n + 3) f fd ["pen", "deep"] (spVal K n) := by
  refine F.ok scValue (fun vs H Q E h => ?_) (fun cdv A outer s H vs Q E hr h => ?_)
  · obtain ⟨p, lc, b, rfl, _⟩ := h
    rfl
  · obtain ⟨p, lc, b, rfl, hP, k⟩ := h
    have bD := bindsDraw D.F
    have bP := bindsPick FP
    have bV := bindsValue F
    refine ⟨_, (pss_cut (ps_set (i := 2) scValue.nd rfl (Or.inl rfl) (pe_ifExp (pt_cmpR op_gt (pv 1) pe_int (nomark _)) (pe_call D.ok (hr.mono (by omega)) rfl D.gl D.F.kp bD .nil pass0 (pa_cons (pv 0) (pa_cons pe_int pa_nil))) pe_int))
      (pss_cons (ps_if (pt_cmpR op_eq (pv 2) pe_int (nomark _)) (pss_one (ps_ret (pe_call GP (hr.mono (by omega)) rfl mP FP.kp bP .nil pass0 (pa_cons (pv 0) (pa_cons (pe_lst (pa_cons pe_non (pa_cons pe_bl (pa_cons pe_bl (pa_cons pe_int (pa_cons pe_int (pa_cons (pe_un un_neg pe_int) (pa_cons (pe_op op_mulW (pe_op op_pow pe_int pe_int) (pe_op op_pow pe_int pe_int)) (pa_cons pe_str (pa_cons pe_str (pa_cons (pe_tup (pa_cons pe_str pa_nil)) pa_nil))))))))))) pa_nil))))) pss_nil)
      (pss_cons (ps_setLc (i := 3) (own := [("turn", 4)]) (g := gName 4) (tt := tYes) rfl scValue.nd rfl rfl (sw_true rfl rfl rfl (by decide +kernel)) (pi_range1 (by rfl) B.range (pa_cons (pe_call D.ok (hr.mono (by omega)) rfl D.gl D.F.kp bD .nil pass0 (pa_cons (pv 0) (pa_cons pe_int pa_nil))) pa_nil)) (blkOk_by (own := [("turn", 4)]) (N := ["pen", "deep", "way", "inner", "turn"]) (sc := defScope sValue) (by decide +kernel)) (fun _ _ _ _ _ => pg_name (i := 4) scValue.nd rfl (Or.inl rfl)) (fun _ _ _ _ _ => pts_nil) (fun _ _ _ _ _ => (pe_call GV (hr.mono (by omega)) rfl mV F.kp bV .nil pass0 (pa_cons (pv 0) (pa_cons (pe_op op_sub (pv 1) pe_int) pa_nil)))))
      (pss_one (ps_ret (pe_ifExp (pt_cmpR op_eq (pv 2) pe_int (nomark _)) (pv 3) (pe_ifExp (pt_cmpR op_eq (pv 2) pe_int (nomark _)) (pe_callTy call_tuple_of (by rfl) B.tuple (by decide +kernel) (pa_cons (pv 3) pa_nil)) (pe_dEnum rfl (by rfl) B.enum (by rfl) B.dict (pa_cons (pv 3) pa_nil))))))))), ?_⟩
    refine ⟨fun σ1 H1 => ∃ (way : Int) (c : Nat), σ1 = [some (.ref p), some (.int (n : Int)), some (.int way), none, none] ∧ But p H H1 ∧ Pen H1 p lc (b + c) ∧ (way = 3 ∨ 0 < n) ∧ 0 ≤ way ∧ way < 4 ∧ 1 ≤ c ∧ (0 < n → 1 + 2 * cV (n - 1) ≤ c), ?_, ?_⟩
    · -- way = ..
      refine ⟨_, rfl, _, _, rfl, rfl, _, rfl, ?_⟩
      refine ite2 (fun hz => ?_) (fun hz => ?_)
      · have hn : 0 < n := by
          have z : (n : Int) > 0 := of_decide_eq_true hz
          omega
        obtain ⟨m, rfl⟩ : ∃ m, n = m + 1 := ⟨n - 1, by omega⟩
        refine ⟨_, rfl, p, lc, b + 2 * cV m + 1, 4, rfl, hP.less (by show b + 2 * cV m + 1 + 1 ≤ b + (2 * cV m + 2); omega), by omega, by omega, fun r H1 r0 r1 kb hp' => ?_⟩
        exact ⟨r, 2 * cV m + 1, rfl, kb, hp', .inr hn, r0, r1, by omega, fun _ => by show 1 + 2 * cV (m + 1 - 1) ≤ _; rw [Nat.add_sub_cancel]; omega⟩
      · have hn : n = 0 := by
          have z : ¬ (n : Int) > 0 := fun q => hz (decide_eq_true q)
          omega
        subst hn
        exact ⟨3, 1, rfl, .refl, hP, .inl rfl, by omega, by omega, by omega, fun q => absurd q (by omega)⟩
    · rintro σ1 H1 ⟨way, c, rfl, kb, hP1, hw, w0, w1, c1, cn⟩
      refine ⟨_, rfl, rfl, _, rfl, ?_⟩
      refine ite2 (fun hz => ?_) (fun hz => ?_)
      · -- a pick
        refine ⟨_, rfl, ?_⟩
        refine ⟨_, rfl, _, _, rfl, rfl, ⟨by decide, by decide, by decide⟩, _, _, rfl, rfl, ⟨by decide, by decide, by decide⟩, _, _, rfl, rfl, (by show CMulW _ _; unfold CMulW; decide +kernel), (by show 1 ≤ sizeLine; decide), fun q hq => ?_⟩
        refine ⟨by show 10 ≤ sizeLine; decide, fun l hl => ?_⟩
        have nqp : q ≠ p := hP1.ne hq
        have nlq : l ≠ q := fun z => by rw [z, upd_same] at hl; cases hl
        have hl1 : H1 l = none := by rw [upd_ne nlq] at hl; exact hl
        have nlp : l ≠ p := hP1.ne hl1
        have hq0 : H q = none := kb.none nqp hq
        have hP3 : Pen (upd (upd H1 q (.tup [V.str (PySem.Str.ofString "x")])) l _) p lc (b + c) := (hP1.upd hq).upd (o := .lst [V.non, V.bl true, V.bl false, V.int 0, V.int 1, V.int (-7), V.int ((10 : Int) ^ (40 : Int).toNat * (10 : Int) ^ (39 : Int).toNat), V.str (PySem.Str.ofString ""), V.str (PySem.Str.ofString "one"), V.ref q]) hl
        refine ⟨p, lc, l, b, _, rfl, nlp, .inl (SqL.of upd_same), by show 0 < 10; decide, by show 10 ≤ 1099511627776; decide, hP3.less (by omega), fun i x H' hx kb' hp' => ?_⟩
        have kbb : But p H H' := ((kb.trans (But.new hq)).trans (But.new hl)).trans kb'
        have hqH' : H' q = some (.tup [V.str (PySem.Str.ofString "x")]) := kb' q _ nqp (by rw [upd_ne nlq.symm, upd_same])
        have z : ∀ d, Sz 0 d → Dv K (nw H H') x d → Q x H' := fun d s1 s2 => k x d H' (s1.mono (Nat.zero_le _)) s2 kbb hp'
        have hm := List.mem_of_getElem? hx
        simp only [List.mem_cons, List.not_mem_nil, or_false] at hm
        rcases hm with rfl | rfl | rfl | rfl | rfl | rfl | rfl | rfl | rfl | rfl
        · exact z _ sz_non .non
        · exact z _ (sz_bl true) (.bl true)
        · exact z _ (sz_bl false) (.bl false)
        · exact z _ sz_0 (.int 0)
        · exact z _ sz_1 (.int 1)
        · exact z _ sz_m7 (.int (-7))
        · exact z _ sz_big (.int _)
        · exact z _ sz_e (.str _)
        · exact z _ sz_o (.str _)
        · exact z _ sz_x (.tup (SqT.of (nw_of hq0 hqH')) (.cons (.str _) .nil))
      · -- a list of values
        have hn : 0 < n := by
          rcases hw with e | e
          · rw [e] at hz
            exact absurd (by decide) hz
          · exact e
        obtain ⟨m, rfl, rfl⟩ : ∃ m, n = m + 1 ∧ spR = spVal K m := by
          rcases hR with e | e
          · omega
          · exact e
        have cn' : 1 + 2 * cV m ≤ c := by
          have z := cn hn
          rw [Nat.add_sub_cancel] at z
          exact z
        refine ⟨_, rfl, p, lc, b + 2 * cV m, 3, rfl, hP1.less (by omega), by omega, by omega, fun r H2 r0 r1 kb2 hp2 => ⟨r, rfl, by omega, by omega, fun D hD => ?_⟩⟩
        have nDp : D ≠ p := hp2.ne hD
        have kb0 : But p H H2 := kb.trans kb2
        have hD0 : H D = none := kb0.none nDp hD
        refine lc_range (fun i H3 => But p H H3 ∧ (∃ e, e + i * cV m = 2 * cV m ∧ Pen H3 p lc (b + e)) ∧ ∃ acc ds, H3 D = some (.lst acc) ∧ acc.length = i ∧ DvAll K (fun a => if a = D then none else nw H H3 a) acc ds ∧ ∀ d ∈ ds, Sz m d) ?_ ?_ ?_
        · refine ⟨kb0.trans (But.new hD), ⟨2 * cV m, by omega, hp2.upd hD⟩, [], [], upd_same, rfl, .nil, fun d hd => nomatch hd⟩
        · rintro i H3 hi ⟨kb3, ⟨e, he, hp3⟩, acc, ds, hacc, hal, hds, hsz⟩
          have hi2 : i < 2 := by omega
          have hem : cV m ≤ e := by
            have z : i * cV m ≤ 1 * cV m := Nat.mul_le_mul_right _ (by omega)
            omega
          refine ⟨rfl, ?_⟩
          simp only [tYes, if_true]
          refine ⟨_, rfl, _, rfl, _, _, rfl, rfl, ?_⟩
          refine ⟨p, lc, b + (e - cV m), ?_, hp3.less (by omega), fun v d H4 sz dv kb4 hp4 => ?_⟩
          · show [V.ref p, V.int (((m + 1 : Nat) : Int) - 1)] = [V.ref p, V.int (m : Int)]
            have z : ((m + 1 : Nat) : Int) - 1 = (m : Int) := by omega
            rw [z]
          · have hD4 : H4 D = some (.lst acc) := kb4 D _ nDp hacc
            refine ⟨acc, hD4, by rw [hal, sizeLine_eq]; omega, fun a o ha q => ?_, ⟨e - cV m, by rw [Nat.add_mul]; omega, ?_⟩, acc ++ [v], ds ++ [d], upd_same, by rw [List.length_append, hal]; rfl, ?_, fun x hx => ?_⟩
            · have naD : a ≠ D := fun z => by rw [z, hD0] at q; cases q
              rw [upd_ne naD]
              exact kb4 a o ha (kb3 a o ha q)
            · obtain ⟨ns, t, r', q1, q2, q3⟩ := hp4
              exact ⟨ns, t, r', by rw [upd_ne nDp.symm]; exact q1, by rw [upd_ne (hp2.nec hD).symm]; exact q2, q3⟩
            · have g1 : ∀ a o, (if a = D then none else nw H H3 a) = some o → (if a = D then none else nw H (upd H4 D (.lst (acc ++ [v]))) a) = some o := fun a o q => by
                by_cases ha : a = D
                · rw [if_pos ha] at q
                  cases q
                · rw [if_neg ha] at q ⊢
                  obtain ⟨q1, q2⟩ := nw_to q
                  refine nw_of q1 ?_
                  rw [upd_ne ha]
                  exact kb4 a o (hP.ne q1) q2
              have g2 : ∀ a o, nw H3 H4 a = some o → (if a = D then none else nw H (upd H4 D (.lst (acc ++ [v]))) a) = some o := fun a o q => by
                obtain ⟨q1, q2⟩ := nw_to q
                have ha : a ≠ D := fun z => by rw [z, hacc] at q1; cases q1
                rw [if_neg ha]
                refine nw_of (kb3.none (hp3.ne q1) q1) ?_
                rw [upd_ne ha]
                exact q2
              exact dv_snoc (dv.mono g2) (DvAll.mono g1 hds)
            · rcases List.mem_append.mp hx with hx | hx
              · exact hsz x hx
              · rw [List.mem_singleton.mp hx]
                exact sz
        · rintro H3 ⟨kb3, ⟨e, he, hp3⟩, acc, ds, hacc, hal, hds, hsz⟩
          have hD3 : nw H H3 D = some (.lst acc) := nw_of hD0 hacc
          have hds' : DvAll K (nw H H3) acc ds := DvAll.mono (fun a o q => by
            by_cases ha : a = D
            · rw [if_pos ha] at q
              cases q
            · rw [if_neg ha] at q
              exact q) hds
          have hlen : ds.length ≤ 2 := by
            rw [← hds'.length, hal]
            omega
          have hp3' : Pen H3 p lc b := hp3.less (by omega)
          refine ⟨_, rfl, rfl, _, rfl, ?_⟩
          refine ite2 (fun hz0 => ?_) (fun hz0 => ?_)
          · exact ⟨_, rfl, k (.ref D) (.list ds) H3 (sz_list hsz hlen) (.lst (SqL.of hD3) hds') kb3 hp3'⟩
          · refine ⟨_, rfl, rfl, _, rfl, ?_⟩
            refine ite2 (fun hz1 => ?_) (fun hz1 => ?_)
            · refine ⟨_, rfl, D, acc, rfl, .inl ⟨SqL.of hacc, fun l hl => ?_⟩⟩
              have kn : But p H3 (upd H3 l (.tup acc)) := But.new hl
              have hl0 : H l = none := kb3.none (hp3.ne hl) hl
              exact k (.ref l) (.tuple ds) _ (sz_tuple hsz hlen) (.tup (SqT.of (nw_of hl0 upd_same)) (DvAll.mono (nw_but hP kn) hds')) (kb3.trans kn) (hp3'.upd hl)
            · refine ⟨_, rfl, D, acc, rfl, SqL.of hacc, fun l hl => ?_⟩
              have kn : But p H3 (upd H3 l (.dK (enumK 0 acc))) := But.new hl
              have hl0 : H l = none := kb3.none (hp3.ne hl) hl
              have dv : Dv K (nw H (upd H3 l (.dK (enumK 0 acc)))) (.ref l) (.dict (((enumK 0 acc).map fun p => kD p.1).zip ds)) :=
                .dic (nw_of hl0 upd_same) (by rw [enumK_vals]; exact DvAll.mono (nw_but hP kn) hds')
              rw [enumK_keys 0 hds'.length] at dv
              exact k (.ref l) _ _ (sz_dict hsz hlen) dv (kb3.trans kn) (hp3'.upd hl)
theorem ok_val {f fD fP : Addr} {fd fdD fdP : FuncData} (F : Fun K "_law_value" "_law_value" sValue f fd) (mV : mg "_law_value" = some (.ref f)) (D : DrawF P w K mg base fD fdD)
    (FP : Fun K "_law_pick" "_law_pick" sPick fP fdP) (mP : mg "_law_pick" = some (.ref fP)) (GP : FnOk P w K mg base CX0 2 fP fdP ["pen", "some"] (spPick K)) (B : Bl2 mg) :
    ∀ n : Nat, FnOk P w K mg base CX0 (n + 3) f fd ["pen", "deep"] (spVal K n)
  | 0 => ok_val_step (n := 0) (spR := fun _ _ _ _ => False) F mV D FP mP GP B (.inl rfl) ⟨fun _ _ _ _ h => h.elim, fun _ _ _ _ _ _ _ _ _ _ _ _ _ h => h.elim⟩
  | n + 1 => ok_val_step F mV D FP mP GP B (.inr ⟨n, rfl, rfl⟩) (ok_val F mV D FP mP GP B n)
end
end My

namespace My
open PySem PySem.Spec PyProof.Rows L2
open C8 (pss_cut tCut)
abbrev sKinds : Stmt := top 25
abbrev sLaw : Stmt := top 26
/-! ### what the written part says of the errors -/
structure EC (P : Program) (w : World) (K : PySem.W.Frag) (mg : Str → Option Value) (x : Str) (ns : List Str) (C fI : Addr) (fd : FuncData) : Prop where
  gC : mg x = some (.ref C)
  ini : PySem.W.excInitIn K C [.type "ValueError", .type "Exception", .type "BaseException", .type "object"] "ValueError.__new__" = true
  iC : PySem.W.findIn K (.ref C) "__init__" = some (some (.ref fI))
  tI : PySem.W.typeIn K (.ref fI) = some (.type "function")
  kC : PySem.W.keepIn K (.ref C) = true
  ok : Exo.InitOk P w K mg C fI fd ns
  fl : ∀ f ∈ ns, ExAt K C f
theorem EC.cl {X : Cx} {x : Str} {ns : List Str} {C fI : Addr} {fd : FuncData} (T : EC X.prog X.w X.K X.mg x ns C fI fd) : ExCl X C fI fd ns := ⟨T.ini, T.iC, T.tI, T.kC, T.ok⟩
/-- the names, the field of those with one -/
def nm (i : Nat) : Str := (["BadShape", "BadFunction", "BadModule", "BadProgram", "BadInput", "BadRun", "BadMaps", "BadFace", "BadPaper", "BadCode", "BadBytes", "BadEntry", "BadState", "BadNumber", "BadLine", "BadText", "TooMany", "Nothing"] : List Str).getD i "Nothing"
def fl (i : Nat) : Str := if i < 9 then "part" else if i < 11 then "at" else if i < 14 then "value" else "word"
def gK {α : Type} (_ zs : List α) : List α := zs
def gP {α : Type} (us _ : List α) : List α := us
def gA {α : Type} (us zs : List α) : List α := us ++ zs
def gS {α : Type} (_ : List α) : List α → List α
  | [a, b] => [b, a]
  | zs => zs
structure LawT (P : Program) (w : World) (K : PySem.W.Frag) (mg : Str → Option Value) (c : Nat → Addr) (cS : Addr) : Prop where
  sys : SysD K
  one : ∀ i, i < 15 → ∃ fI fd, EC P w K mg (nm i) [fl i] (c i) fI fd ∧ EBind fd [fl i] [fl i] 0 gK ∧ EBind fd [fl i] [] 1 gP
  text : ∃ fI fd, EC P w K mg "BadText" ["line", "word"] (c 15) fI fd ∧ EBind fd ["line", "word"] ["word"] 1 gA
  many : ∃ fI fd, EC P w K mg "TooMany" ["what", "most"] (c 16) fI fd ∧ EBind fd ["what", "most"] ["most", "what"] 0 gS
  no : mg "Nothing" = some (.ref (c 17)) ∧ PySem.W.excIn K (c 17) [.type "ValueError", .type "Exception", .type "BaseException", .type "object"] "ValueError.__new__" = true ∧ PySem.W.keepIn K (.ref (c 17)) = true
  gl : ∀ i, i < 18 → mg (nm i) = some (.ref (c i))
  glS : mg "StandError" = some (.ref cS)
  val : mg "ValueError" = none
  exc : ∀ i, i < 18 → ExcC K (c i)
  kit : ∀ i j, i < 18 → j < 18 → PySem.W.kitOne K (.ref (c i)) (.ref (c j)) = some (decide (i = j))
  kitS : ∀ i, i < 18 → PySem.W.kitOne K (.ref (c i)) (.ref cS) = some true
  kitV : ∀ i, i < 18 → PySem.W.kitOne K (.ref (c i)) (.type "ValueError") = some true
theorem LawT.at {P : Program} {w : World} {K : PySem.W.Frag} {mg : Str → Option Value} {c : Nat → Addr} {cS : Addr} (T : LawT P w K mg c cS) (i : Nat) (h : i < 15) : ExAt K (c i) (fl i) := by
  obtain ⟨fI, fd, x, _⟩ := T.one i h
  exact x.fl _ List.mem_cons_self
theorem ref_of {es : List Addr} {i : Nat} {y : V} (h : (es.map V.ref)[i]? = some y) : ∃ e, es[i]? = some e ∧ y = .ref e := by
  rw [List.getElem?_map] at h
  cases q : es[i]? with
  | none =>
    rw [q] at h
    cases h
  | some e =>
    rw [q] at h
    exact ⟨e, rfl, (Option.some.inj h).symm⟩
theorem dv_rep {K : PySem.W.Frag} {H : Hp} {v : V} {d : PyData} : ∀ (n : Nat), Dv K H v d → DvAll K H (List.replicate n v) (List.replicate n d)
  | 0, _ => .nil
  | n + 1, h => .cons h (dv_rep n h)
/-- an error of the class C -/
def ErC (H : Hp) (C a : Addr) : Prop := (∃ fs, Er H C a fs) ∨ H a = some (ExO (.ref C) a)
def spKinds (c : Nat → Addr) : Sp := fun vs H Q _ => ∃ (a : Addr) (i : Nat), vs = [.ref a] ∧ i < 18 ∧ ErC H (c i) a ∧ ∀ l H', H l = none → Same H H' → H' l = some (.lst ((List.range 18).map fun j => V.bl (decide (i = j)))) → Q (.ref l) H'
section
variable {P : Program} {w : World} {K : PySem.W.Frag} {mg : Str → Option Value} {base : Heap} {c : Nat → Addr} {cS : Addr}
theorem ErC.mono {H H' : Hp} {C a : Addr} (k : ∀ b o, H b = some o → H' b = some o) : ErC H C a → ErC H' C a
  | .inl ⟨fs, dx, h1, h2⟩ => .inl ⟨fs, dx, k _ _ h1, k _ _ h2⟩
  | .inr h => .inr (k _ _ h)
theorem Er.mono {H H' : Hp} {C a : Addr} {fs : List (Str × V)} (k : ∀ b o, H b = some o → H' b = some o) : Er H C a fs → Er H' C a fs
  | ⟨dx, h1, h2⟩ => ⟨dx, k _ _ h1, k _ _ h2⟩
theorem scKinds : FnScope ["error", "found"] ["error"] (defScope sKinds) := ⟨rfl, rfl, rfl, by decide +kernel, rfl, by decide +kernel, by decide +kernel⟩
theorem scLaw : FnScope ["script", "pen", "turn", "one", "two", "parts", "places", "values", "found", "text", "many", "at", "error", "spot", "is_so"] ["script"] (defScope sLaw) := ⟨rfl, rfl, rfl, by decide +kernel, rfl, by decide +kernel, by decide +kernel⟩
theorem up2 {H : Hp} {l : Addr} {o : HO} (h : H l = none) : ∀ b u, H b = some u → upd H l o b = some u := fun b u e => by rw [upd_ne (ne_of_none e h)]; exact e
theorem un2 {H : Hp} {a b : Addr} {o : HO} (h : upd H a o b = none) : H b = none ∧ b ≠ a := by
  by_cases e : b = a
  · rw [e, upd_same] at h
    cases h
  · rw [upd_ne e] at h
    exact ⟨h, e⟩
theorem ok_kinds {f : Addr} {fd : FuncData} (F : Fun K "_law_kinds" "_law_kinds" sKinds f fd) (T : LawT P w K mg c cS) (B : Bl2 mg) : FnOk P w K mg base CX0 1 f fd ["error"] (spKinds c) := by
  refine F.ok scKinds (fun vs H Q E h => ?_) (fun cdv A outer s H vs Q E hr h => ?_)
  · obtain ⟨a, i, rfl, _⟩ := h
    rfl
  · obtain ⟨a, i, rfl, hi, hE, k⟩ := h
    have X := T.exc i hi
    refine ⟨_, (pss_cons (ps_set (i := 1) scKinds.nd rfl (Or.inl rfl) (pe_lst (pa_cons (pe_callB call_isX (by rfl) B.isin (by decide +kernel) (pa_cons (pv 0) (pa_cons (pe_glob (v := .ref _) rfl (T.gl 0 (by decide)) rfl) pa_nil))) (pa_cons (pe_callB call_isX (by rfl) B.isin (by decide +kernel) (pa_cons (pv 0) (pa_cons (pe_glob (v := .ref _) rfl (T.gl 1 (by decide)) rfl) pa_nil))) (pa_cons (pe_callB call_isX (by rfl) B.isin (by decide +kernel) (pa_cons (pv 0) (pa_cons (pe_glob (v := .ref _) rfl (T.gl 2 (by decide)) rfl) pa_nil))) (pa_cons (pe_callB call_isX (by rfl) B.isin (by decide +kernel) (pa_cons (pv 0) (pa_cons (pe_glob (v := .ref _) rfl (T.gl 3 (by decide)) rfl) pa_nil))) (pa_cons (pe_callB call_isX (by rfl) B.isin (by decide +kernel) (pa_cons (pv 0) (pa_cons (pe_glob (v := .ref _) rfl (T.gl 4 (by decide)) rfl) pa_nil))) (pa_cons (pe_callB call_isX (by rfl) B.isin (by decide +kernel) (pa_cons (pv 0) (pa_cons (pe_glob (v := .ref _) rfl (T.gl 5 (by decide)) rfl) pa_nil))) pa_nil))))))))
      (pss_cons (ps_set (i := 1) scKinds.nd rfl (Or.inl rfl) (pe_op op_cat (pv 1) (pe_lst (pa_cons (pe_callB call_isX (by rfl) B.isin (by decide +kernel) (pa_cons (pv 0) (pa_cons (pe_glob (v := .ref _) rfl (T.gl 6 (by decide)) rfl) pa_nil))) (pa_cons (pe_callB call_isX (by rfl) B.isin (by decide +kernel) (pa_cons (pv 0) (pa_cons (pe_glob (v := .ref _) rfl (T.gl 7 (by decide)) rfl) pa_nil))) (pa_cons (pe_callB call_isX (by rfl) B.isin (by decide +kernel) (pa_cons (pv 0) (pa_cons (pe_glob (v := .ref _) rfl (T.gl 8 (by decide)) rfl) pa_nil))) (pa_cons (pe_callB call_isX (by rfl) B.isin (by decide +kernel) (pa_cons (pv 0) (pa_cons (pe_glob (v := .ref _) rfl (T.gl 9 (by decide)) rfl) pa_nil))) (pa_cons (pe_callB call_isX (by rfl) B.isin (by decide +kernel) (pa_cons (pv 0) (pa_cons (pe_glob (v := .ref _) rfl (T.gl 10 (by decide)) rfl) pa_nil))) (pa_cons (pe_callB call_isX (by rfl) B.isin (by decide +kernel) (pa_cons (pv 0) (pa_cons (pe_glob (v := .ref _) rfl (T.gl 11 (by decide)) rfl) pa_nil))) pa_nil)))))))))
      (pss_cons (ps_set (i := 1) scKinds.nd rfl (Or.inl rfl) (pe_op op_cat (pv 1) (pe_lst (pa_cons (pe_callB call_isX (by rfl) B.isin (by decide +kernel) (pa_cons (pv 0) (pa_cons (pe_glob (v := .ref _) rfl (T.gl 12 (by decide)) rfl) pa_nil))) (pa_cons (pe_callB call_isX (by rfl) B.isin (by decide +kernel) (pa_cons (pv 0) (pa_cons (pe_glob (v := .ref _) rfl (T.gl 13 (by decide)) rfl) pa_nil))) (pa_cons (pe_callB call_isX (by rfl) B.isin (by decide +kernel) (pa_cons (pv 0) (pa_cons (pe_glob (v := .ref _) rfl (T.gl 14 (by decide)) rfl) pa_nil))) (pa_cons (pe_callB call_isX (by rfl) B.isin (by decide +kernel) (pa_cons (pv 0) (pa_cons (pe_glob (v := .ref _) rfl (T.gl 15 (by decide)) rfl) pa_nil))) (pa_cons (pe_callB call_isX (by rfl) B.isin (by decide +kernel) (pa_cons (pv 0) (pa_cons (pe_glob (v := .ref _) rfl (T.gl 16 (by decide)) rfl) pa_nil))) (pa_cons (pe_callB call_isX (by rfl) B.isin (by decide +kernel) (pa_cons (pv 0) (pa_cons (pe_glob (v := .ref _) rfl (T.gl 17 (by decide)) rfl) pa_nil))) pa_nil)))))))))
      (pss_one (ps_ret (pv 1)))))), ?_⟩
    refine ⟨_, rfl, a, c i, _, .ref (c 0), _, rfl, hE, X, fun u r => r, T.kit i 0 hi (by decide), ?_⟩
    refine ⟨_, rfl, a, c i, _, .ref (c 1), _, rfl, hE, X, fun u r => r, T.kit i 1 hi (by decide), ?_⟩
    refine ⟨_, rfl, a, c i, _, .ref (c 2), _, rfl, hE, X, fun u r => r, T.kit i 2 hi (by decide), ?_⟩
    refine ⟨_, rfl, a, c i, _, .ref (c 3), _, rfl, hE, X, fun u r => r, T.kit i 3 hi (by decide), ?_⟩
    refine ⟨_, rfl, a, c i, _, .ref (c 4), _, rfl, hE, X, fun u r => r, T.kit i 4 hi (by decide), ?_⟩
    refine ⟨_, rfl, a, c i, _, .ref (c 5), _, rfl, hE, X, fun u r => r, T.kit i 5 hi (by decide), ?_⟩
    refine ⟨by show 6 ≤ sizeLine; decide, fun l0 h0 => ?_⟩
    have e0 := hE.mono (up2 (o := .lst [V.bl (decide (i = 0)), V.bl (decide (i = 1)), V.bl (decide (i = 2)), V.bl (decide (i = 3)), V.bl (decide (i = 4)), V.bl (decide (i = 5))]) h0)
    refine ⟨_, rfl, ?_⟩
    refine ⟨_, rfl, a, c i, _, .ref (c 6), _, rfl, e0, X, fun u r => r, T.kit i 6 hi (by decide), ?_⟩
    refine ⟨_, rfl, a, c i, _, .ref (c 7), _, rfl, e0, X, fun u r => r, T.kit i 7 hi (by decide), ?_⟩
    refine ⟨_, rfl, a, c i, _, .ref (c 8), _, rfl, e0, X, fun u r => r, T.kit i 8 hi (by decide), ?_⟩
    refine ⟨_, rfl, a, c i, _, .ref (c 9), _, rfl, e0, X, fun u r => r, T.kit i 9 hi (by decide), ?_⟩
    refine ⟨_, rfl, a, c i, _, .ref (c 10), _, rfl, e0, X, fun u r => r, T.kit i 10 hi (by decide), ?_⟩
    refine ⟨_, rfl, a, c i, _, .ref (c 11), _, rfl, e0, X, fun u r => r, T.kit i 11 hi (by decide), ?_⟩
    refine ⟨by show 6 ≤ sizeLine; decide, fun l1 h1 => ?_⟩
    refine ⟨l0, l1, _, _, rfl, rfl, up2 h1 _ _ upd_same, upd_same, by show 12 ≤ sizeLine; decide, fun l2 h2 => ?_⟩
    have e1 := (e0.mono (up2 (o := .lst [V.bl (decide (i = 6)), V.bl (decide (i = 7)), V.bl (decide (i = 8)), V.bl (decide (i = 9)), V.bl (decide (i = 10)), V.bl (decide (i = 11))]) h1)).mono (up2 (o := .lst ([V.bl (decide (i = 0)), V.bl (decide (i = 1)), V.bl (decide (i = 2)), V.bl (decide (i = 3)), V.bl (decide (i = 4)), V.bl (decide (i = 5))] ++ [V.bl (decide (i = 6)), V.bl (decide (i = 7)), V.bl (decide (i = 8)), V.bl (decide (i = 9)), V.bl (decide (i = 10)), V.bl (decide (i = 11))])) h2)
    refine ⟨_, rfl, ?_⟩
    refine ⟨_, rfl, a, c i, _, .ref (c 12), _, rfl, e1, X, fun u r => r, T.kit i 12 hi (by decide), ?_⟩
    refine ⟨_, rfl, a, c i, _, .ref (c 13), _, rfl, e1, X, fun u r => r, T.kit i 13 hi (by decide), ?_⟩
    refine ⟨_, rfl, a, c i, _, .ref (c 14), _, rfl, e1, X, fun u r => r, T.kit i 14 hi (by decide), ?_⟩
    refine ⟨_, rfl, a, c i, _, .ref (c 15), _, rfl, e1, X, fun u r => r, T.kit i 15 hi (by decide), ?_⟩
    refine ⟨_, rfl, a, c i, _, .ref (c 16), _, rfl, e1, X, fun u r => r, T.kit i 16 hi (by decide), ?_⟩
    refine ⟨_, rfl, a, c i, _, .ref (c 17), _, rfl, e1, X, fun u r => r, T.kit i 17 hi (by decide), ?_⟩
    refine ⟨by show 6 ≤ sizeLine; decide, fun l3 h3 => ?_⟩
    refine ⟨l2, l3, _, _, rfl, rfl, up2 h3 _ _ upd_same, upd_same, by show 18 ≤ sizeLine; decide, fun l4 h4 => ?_⟩
    have n0 : H l4 = none := (un2 (un2 (un2 (un2 h4).1).1).1).1
    exact ⟨_, rfl, k l4 _ n0 (fun b o e => up2 h4 b o (up2 h3 b o (up2 h2 b o (up2 h1 b o (up2 h0 b o e))))) upd_same⟩
end
end My

namespace L2
open PySem PySem.Spec PyProof.Rows
/-! ### a def's promise where no repr is under way (for a def that calls repr) -/
structure FnG (P : Program) (w : World) (K : PySem.W.Frag) (mg : Str → Option Value) (base : Heap) (k : Nat) (f : Addr) (fd : FuncData) (ps : List Str) (sp : Sp) : Prop where
  len : ∀ vs H Q E, sp vs H Q E → vs.length = ps.length
  run : ∀ (A : Around) (outer : List Env) (s : Shared) (H : Hp) (args : Args) (us : List Value) (vs : List V) (Q : VK) (E : XK), A.guards = some [] → Room k A → Env0 P w K mg base A outer s H → BindsTo s fd args (ps.zip us) → Vals vs us →
    sp vs H Q E → codeAny (model P w) A (.call (.ref f) args) (CR CX0 outer P w H s Q E) s
theorem fnG_of {P : Program} {w : World} {K : PySem.W.Frag} {mg : Str → Option Value} {base : Heap} {x qual : Str} {st : Stmt} {f : Addr} {fd : FuncData} {N ps : List Str} {k : Nat} {sp : Sp} (F : Fun K x qual st f fd) (S : FnScope N ps (defScope st))
    (len : ∀ vs H Q E, sp vs H Q E → vs.length = ps.length)
    (hbody : ∀ (cdv : Value) (A : Around) (outer : List Env) (s : Shared) (H : Hp) (vs : List V) (Q : VK) (E : XK), A.guards = some [] → Room k (A.deeper (envOfC qual (defScope st) s.heap.objs.size f cdv)) → sp vs H Q E →
      ∃ t, PSs (cxOf CX0 P w K mg base N qual (defScope st) f cdv A outer s H E).nox (defBody st) t ∧ t { nx := fun _ H' => Q .non H', rt := Q } (start N vs) H) : FnG P w K mg base (k + 1) f fd ps sp := by
  obtain ⟨oc, od, kV, doc, pm, an, cdv, ct, osl, rfl, lk, hcd⟩ := F.ex
  constructor
  · exact len
  · intro A outer s H args us vs Q E hg hr e0 hb r hsp
    have hl := len vs H Q E hsp
    have toS : ∀ b o, base.get? b = some o → s.heap.get? b = some o := fun b o e => (e0.bs b o e).1
    have XS := e0.mod.kin.keeps toS
    have NL := e0.mod.nolimit.keeps toS
    refine codeAny_call_function hr.depth (XS _ _ lk) rfl S.co S.gen rfl (PySem.W.codeRec_of XS hcd) (hb _ _ _ _ ?_)
    refine wpAny_newFunctionEnv_cells S.kind (fun ⟨n, v⟩ hy => ?_) fun env he s1 x => ?_
    · rcases S.par n (List.of_mem_zip hy).1 with q | q
      · exact Or.inl q
      · exact Or.inr ⟨q, PySem.W.cellsFrom_some _ _ _ (Or.inl q)⟩
    · subst he
      refine ⟨NL.keeps x.toInCall.keep, codeAny_func ?_⟩
      obtain ⟨t, ht, hq⟩ := hbody cdv A outer s H vs Q E hg (hr.deeper _) hsp
      have J := inv_start (CX := CX0) (E := E) S hr.hd e0 hl r x
      refine wpAny_mono (ht.nox.run [] s1 (start N vs) H _ J hq) (fun fl s' hs => ?_) fun e s' hs => hs
      match fl, hs with
      | .ret u, ⟨v, σ', H', J', rv, q⟩ => exact ⟨v, H', J'.os, J'.bare, J'.base, J'.hok, rv, q⟩
      | .next, ⟨σ', H', J', q⟩ => exact ⟨V.non, H', J'.os, J'.bare, J'.base, J'.hok, rfl, q⟩
      | .brk, ⟨_, _, _, q⟩ => exact q.elim
      | .cont, ⟨_, _, _, q⟩ => exact q.elim
/-- such a law, called -/
theorem lawG {P : Program} {w : World} {K : PySem.W.Frag} {mg mb : Str → Option Value} {k : Nat} {fa a : Addr} {fd : FuncData} {x : Str} {sp : Sp} {s₁ : Shared} {vs : List Value} {ns : List Int}
    (KX : K.In s₁.heap) (hns : s₁.heap.Ns mainGlobals mg) (hb : s₁.heap.Ns builtinsNs mb) (hbb : ∀ y : Str, y ≠ "__name__" → mb y = bootBuiltins y) (hlim : s₁.heap.NoLimit) (hg : s₁.gens = #[])
    (ha : s₁.heap.get? a = some { cls := .type "list", data := .seq vs.toArray }) (hi : IntsAre vs ns) (hl : ns.length ≤ sizeLine) (hr : Room k callerA)
    (F : ∀ base : Heap, K.In base → base.Ns mainGlobals mg → FnG P w K mg base k fa fd [x] sp) (hbind : ∀ (s : Shared) (u : Value), BindsTo s fd ⟨[u], []⟩ [(x, u)])
    (hsp : ∀ H : Hp, SqL K H a (ns.map V.int) → sp [.ref a] H (fun v _ => v = .bl true) fun _ _ _ => False) :
    codeAny (model P w) callerA (.call (.ref fa) ⟨[.ref a], []⟩) (fun r s' => r = .ok (.ret (.bool true)) ∧ OldK s₁.heap s'.heap ∧ s'.os = s₁.os ∧ AllBare s'.gens) s₁ := by
  have main : ∀ H : Hp, (∀ b, H b = none ∨ (b = a ∧ K.lookup a = none ∧ H b = some (.frz { cls := .type "list", data := .seq vs.toArray } (.lst (ns.map V.int))))) → SqL K H a (ns.map V.int) → HOk P w H s₁.heap →
      codeAny (model P w) callerA (.call (.ref fa) ⟨[.ref a], []⟩) (fun r s' => r = .ok (.ret (.bool true)) ∧ OldK s₁.heap s'.heap ∧ s'.os = s₁.os ∧ AllBare s'.gens) s₁ := by
    intro H hO hS hok
    have dct : ∀ {b : Addr} {m : Str → Option Value}, s₁.heap.Ns b m → (hidT s₁.heap H).Ns b m := by
      rintro b m ⟨o, es, ep, e, d, r⟩
      refine ⟨o, es, ep, hidT_get e ?_, d, r⟩
      rcases hO b with z | ⟨z, _⟩
      · exact z
      · subst z
        rw [ha] at e
        cases e
        cases d
    have KB : K.In (hidT s₁.heap H) := fun b o e => by
      refine hidT_get (KX b o e) ?_
      rcases hO b with z | ⟨z, z2, _⟩
      · exact z
      · subst z
        rw [z2] at e
        cases e
    obtain ⟨ml, l1, l2⟩ := hlim
    have M : Mod K mg (hidT s₁.heap H) := ⟨KB, dct hns, ⟨mb, dct hb, hbb⟩, ⟨ml, dct l1, l2⟩⟩
    have e0 : Env0 P w K mg (hidT s₁.heap H) callerA [] s₁ H := ⟨rfl, M, fun b o e => of_hidT e, Nat.le_of_eq (hidT_size _ _), trivial, (fun b hb => nomatch (show b ∈ ([] : List Addr) from hb)), hok, .of_eq hg⟩
    refine codeAny_mono ((F _ KB (dct hns)).run callerA [] s₁ H ⟨[.ref a], []⟩ [.ref a] [.ref a] _ _ rfl hr e0 (hbind s₁ (.ref a)) (.cons rfl .nil) (hsp H hS)) fun r s' h => ?_
    match r, h with
    | .error e, h => exact h.elim
    | .ok .next, h => exact h.elim
    | .ok .brk, h => exact h.elim
    | .ok .cont, h => exact h.elim
    | .ok (.ret u), ⟨v, H', os, bare, un, hok', rv, q⟩ =>
      obtain rfl : v = .bl true := q
      obtain rfl : u = Value.bool true := rv
      refine ⟨rfl, OldK.of_keep fun b o e => ?_, os, bare⟩
      rcases hO b with z | ⟨_, _, z⟩
      · exact un.keep b o e z (fun y => nomatch (show b ∈ ([] : List Addr) from y)) (fun y => (nomatch y))
      · have e1 := (hok b _ z).1
        have e2 := (hok' b _ (un.frzs b _ _ z)).1
        rw [e] at e1
        cases e1
        exact e2
  have rv := vals_ints hi
  cases hk : K.lookup a with
  | some o =>
    have e := KX a o hk
    rw [ha] at e
    cases e
    refine main (fun _ => none) (fun _ => .inl rfl) (.inr ⟨_, vs.toArray, _, hk, rfl, rfl, rfl, ?_, by simpa using rv⟩) fun b u z => nomatch (show (none : Option HO) = some u from z)
    rw [List.size_toArray, hi.length]
    exact hl
  | none =>
    refine main (fun b => if b = a then some (.frz { cls := .type "list", data := .seq vs.toArray } (.lst (ns.map V.int))) else none) (fun b => ?_) (.inl (.inr ⟨_, if_pos rfl⟩)) fun b u z => ?_
    · by_cases q : b = a
      · exact .inr ⟨q, hk, if_pos q⟩
      · exact .inl (if_neg q)
    · by_cases q : b = a
      · have z' := (if_pos q).symm.trans z
        cases z'
        subst q
        exact ⟨ha, by rw [List.length_map]; exact hl, vs, _, rv, ha⟩
      · have z' := (if_neg q).symm.trans z
        cases z'
/-- the goal of a head, for such a law -/
theorem walkG {l : PySem.W.OpenLaw} {n k : Nat} {q : Program} {loose : List Str} {XP : (Str → Option Value) → Heap → Prop} {YP : World → Heap → Prop} {d : DefRec} {x : Str}
    (hn : l.most = some n) (hn2 : n ≤ sizeLine) (hdf : d.params.defaults = []) (hr : Room k callerA)
    (F : ∀ (w : World) (mg : Str → Option Value) (fa : Addr) (h : Heap), YP w h → h.Ns mainGlobals mg → mg d.name = some (.ref fa) →
      ∃ (K : PySem.W.Frag) (fd : FuncData) (sp : Sp), K.In h ∧ (∀ (s : Shared) (u : Value), BindsTo s fd ⟨[u], []⟩ [(x, u)]) ∧
        (∀ (H : Hp) (a : Addr) (ns : List Int), ns.length ≤ n → SqL K H a (ns.map V.int) → sp [.ref a] H (fun v _ => v = .bl true) fun _ _ _ => False) ∧ ∀ base : Heap, K.In base → base.Ns mainGlobals mg → FnG l.prog w K mg base k fa fd [x] sp) :
    PySem.W.WalkO q loose XP YP l.row.toRowW d [] (fun f vs => PySem.call f vs) := by
  refine Att.attach_call hn hdf fun w s₀ s₁ mg mb fa o pm cd doc a vs ns G Y ho hd hcd hmg hobj hints hlen hg => ?_
  obtain ⟨K, fd, sp, KX, hb, hsp, hF⟩ := F w mg fa _ Y G.T.g hmg
  exact lawG KX G.T.g G.T.b G.T.builtins G.T.nolimit hg hobj hints (Nat.le_trans hlen hn2) hr hF hb fun H hS => hsp H a ns hlen hS
end L2

namespace My
open PySem PySem.Spec PyProof.Rows L2
open C8 (pss_cut tCut)
theorem two_up {H : Hp} {dx a : Addr} {o o' : HO} (hd : H dx = none) (ha : H a = none) (hn : dx ≠ a) : ∀ b u, H b = some u → upd (upd H dx o) a o' b = some u := fun b u e => by
  rw [upd_ne (ne_of_none e ha), upd_ne (ne_of_none e hd)]
  exact e
theorem er_new {H : Hp} {C dx a : Addr} {fs : List (Str × V)} (hn : dx ≠ a) : Er (upd (upd H dx (.xd fs)) a (ExV C dx a)) C a fs := ⟨dx, upd_same, by rw [upd_ne hn, upd_same]⟩
/-- H0 is kept; es are errors of the classes from the k-th, each with v in its field -/
structure St (H0 H : Hp) (c : Nat → Addr) (v : V) (k : Nat) (es : List Addr) : Prop where
  keep : ∀ b u, H0 b = some u → H b = some u
  ers : ∀ j e, es[j]? = some e → Er H (c (k + j)) e [(fl (k + j), v)]
theorem St.nil {H : Hp} {c : Nat → Addr} {v : V} {k : Nat} : St H H c v k [] := ⟨fun _ _ e => e, fun j e h => by simp at h⟩
theorem St.more {H0 H H' : Hp} {c : Nat → Addr} {v : V} {k : Nat} {es : List Addr} (s : St H0 H c v k es) (h : ∀ b u, H b = some u → H' b = some u) : St H0 H' c v k es :=
  ⟨fun b u e => h b u (s.keep b u e), fun j e q => Er.mono h (s.ers j e q)⟩
theorem St.snoc {H0 H : Hp} {c : Nat → Addr} {v : V} {k : Nat} {es : List Addr} (n : Nat) (s : St H0 H c v k es) {dx a : Addr} (hd : H dx = none) (ha : H a = none) (hn : dx ≠ a) (e : k + es.length = n) :
    St H0 (upd (upd H dx (.xd [(fl n, v)])) a (ExV (c n) dx a)) c v k (es ++ [a]) := by
  have up := two_up (o := .xd [(fl n, v)]) (o' := ExV (c n) dx a) hd ha hn
  refine ⟨fun b u q => up b u (s.keep b u q), fun j x q => ?_⟩
  by_cases h : j < es.length
  · rw [List.getElem?_append_left h] at q
    exact Er.mono up (s.ers j x q)
  · rw [List.getElem?_append_right (by omega)] at q
    have h0 : j - es.length = 0 := by
      rcases Nat.eq_zero_or_pos (j - es.length) with z | z
      · exact z
      · rw [List.getElem?_eq_none (by simp; omega)] at q
        cases q
    rw [h0] at q
    have ex : x = a := (Option.some.inj q).symm
    have ej : k + j = n := by omega
    rw [ex, ej]
    exact er_new hn
def spLaw (K : PySem.W.Frag) : Sp := fun vs H Q _ => ∃ (a : Addr) (ns : List Int), vs = [.ref a] ∧ SqL K H a (ns.map V.int) ∧ ns.length ≤ 63 ∧ ∀ H', Q (.bl true) H'
/-- one and two stand for what repr shows -/
structure Two (K : PySem.W.Frag) (H : Hp) (one two : V) (d1 d2 : PyData) : Prop where
  s1 : Sz 3 d1
  s2 : Sz 2 d2
  v1 : Dv K H one d1
  v2 : Dv K H two d2
theorem Two.mono {K : PySem.W.Frag} {H H' : Hp} {one two : V} {d1 d2 : PyData} (t : Two K H one two d1 d2) (h : ∀ b u, H b = some u → H' b = some u) : Two K H' one two d1 d2 := ⟨t.s1, t.s2, t.v1.mono h, t.v2.mono h⟩

section
variable {P : Program} {w : World} {K : PySem.W.Frag} {mg : Str → Option Value} {base : Heap} {c : Nat → Addr} {cS : Addr}
theorem ok_law {f fPe fV fK : Addr} {fd fdPe fdV fdK : FuncData} (F : Fun K "law" "law" sLaw f fd) (T : LawT P w K mg c cS) (B : Bl2 mg)
    (FPe : Fun K "_law_pen" "_law_pen" sPen fPe fdPe) (mPe : mg "_law_pen" = some (.ref fPe)) (GPe : FnOk P w K mg base CX0 1 fPe fdPe ["script"] (spPen K))
    (FV : Fun K "_law_value" "_law_value" sValue fV fdV) (mV : mg "_law_value" = some (.ref fV)) (GV : ∀ n : Nat, FnOk P w K mg base CX0 (n + 3) fV fdV ["pen", "deep"] (spVal K n))
    (FK : Fun K "_law_kinds" "_law_kinds" sKinds fK fdK) (mK : mg "_law_kinds" = some (.ref fK)) (GK : FnOk P w K mg base CX0 1 fK fdK ["error"] (spKinds c)) : FnG P w K mg base 7 f fd ["script"] (spLaw K) := by
  refine fnG_of F scLaw (fun vs H Q E h => ?_) (fun cdv A outer s H vs Q E hg hr h => ?_)
  · obtain ⟨a, ns, rfl, _⟩ := h
    rfl
  · obtain ⟨a, ns, rfl, hS, hl, k⟩ := h
    have hgd : (A.deeper (envOfC "law" (defScope sLaw) s.heap.objs.size f cdv)).guards = some [] := hg
    have hu : (A.deeper (envOfC "law" (defScope sLaw) s.heap.objs.size f cdv)).units + 100 < cLine := by
      have := hr.un
      omega
    have bPe := bindsPen FPe
    have bV := bindsValue FV
    have bK : Binds K fdK ["error"] [] := FK.binds fun _ _ _ _ _ _ us hl => match us, hl with | [_], _ => rfl
    obtain ⟨i0, d0, x0, y0, z0⟩ := T.one 0 (by decide)
    obtain ⟨i1, d1, x1, y1, z1⟩ := T.one 1 (by decide)
    obtain ⟨i2, d2, x2, y2, z2⟩ := T.one 2 (by decide)
    obtain ⟨i3, d3, x3, y3, z3⟩ := T.one 3 (by decide)
    obtain ⟨i4, d4, x4, y4, z4⟩ := T.one 4 (by decide)
    obtain ⟨i5, d5, x5, y5, z5⟩ := T.one 5 (by decide)
    obtain ⟨i6, d6, x6, y6, z6⟩ := T.one 6 (by decide)
    obtain ⟨i7, d7, x7, y7, z7⟩ := T.one 7 (by decide)
    obtain ⟨i8, d8, x8, y8, z8⟩ := T.one 8 (by decide)
    obtain ⟨i9, d9, x9, y9, z9⟩ := T.one 9 (by decide)
    obtain ⟨i10, d10, x10, y10, z10⟩ := T.one 10 (by decide)
    obtain ⟨i11, d11, x11, y11, z11⟩ := T.one 11 (by decide)
    obtain ⟨i12, d12, x12, y12, z12⟩ := T.one 12 (by decide)
    obtain ⟨i13, d13, x13, y13, z13⟩ := T.one 13 (by decide)
    obtain ⟨i14, d14, x14, y14, z14⟩ := T.one 14 (by decide)
    obtain ⟨i15, d15, x15, y15⟩ := T.text
    obtain ⟨i16, d16, x16, y16⟩ := T.many
    refine ⟨_, (pss_cons (ps_set (i := 1) scLaw.nd rfl (Or.inl rfl) (pe_call GPe (hr.mono (by omega)) rfl mPe FPe.kp bPe .nil pass0 (pa_cons (pv 0) pa_nil)))
      (pss_cons (ps_for PassesOwn.never rfl (pi_range1 (by rfl) B.range (pa_cons pe_int pa_nil)) (pg_name (i := 2) scLaw.nd rfl (Or.inl rfl)) (pss_cut (ps_par (i := 3) (j := 4) (by rfl) scLaw.nd rfl rfl (by decide) rfl rfl (pa_cons (pe_call (GV 3) (hr.mono (by omega)) rfl mV FV.kp bV .nil pass0 (pa_cons (pv 1) (pa_cons pe_int pa_nil))) (pa_cons (pe_call (GV 2) (hr.mono (by omega)) rfl mV FV.kp bV .nil pass0 (pa_cons (pv 1) (pa_cons pe_int pa_nil))) pa_nil)) (by rfl))
      (pss_cut (ps_set (i := 5) scLaw.nd rfl (Or.inl rfl) (pe_lst (pa_cons (pe_exoK0 x0.cl (hr.mono (by omega)) y0 rfl x0.gC (pk_cons (pv 3) pk_nil)) (pa_cons (pe_exoK0 x1.cl (hr.mono (by omega)) y1 rfl x1.gC (pk_cons (pv 3) pk_nil)) (pa_cons (pe_exoK0 x2.cl (hr.mono (by omega)) y2 rfl x2.gC (pk_cons (pv 3) pk_nil)) (pa_cons (pe_exoK0 x3.cl (hr.mono (by omega)) y3 rfl x3.gC (pk_cons (pv 3) pk_nil)) (pa_cons (pe_exoK0 x4.cl (hr.mono (by omega)) y4 rfl x4.gC (pk_cons (pv 3) pk_nil)) (pa_cons (pe_exoK0 x5.cl (hr.mono (by omega)) y5 rfl x5.gC (pk_cons (pv 3) pk_nil)) (pa_cons (pe_exoK0 x6.cl (hr.mono (by omega)) y6 rfl x6.gC (pk_cons (pv 3) pk_nil)) (pa_cons (pe_exoK0 x7.cl (hr.mono (by omega)) y7 rfl x7.gC (pk_cons (pv 3) pk_nil)) (pa_cons (pe_exoK0 x8.cl (hr.mono (by omega)) y8 rfl x8.gC (pk_cons (pv 3) pk_nil)) pa_nil)))))))))))
      (pss_cut (ps_par (i := 6) (j := 7) (by rfl) scLaw.nd rfl rfl (by decide) rfl rfl (pa_cons (pe_lst (pa_cons (pe_exoK0 x9.cl (hr.mono (by omega)) y9 rfl x9.gC (pk_cons (pv 3) pk_nil)) (pa_cons (pe_exoK0 x10.cl (hr.mono (by omega)) y10 rfl x10.gC (pk_cons (pv 3) pk_nil)) pa_nil))) (pa_cons (pe_lst (pa_cons (pe_exoK0 x11.cl (hr.mono (by omega)) y11 rfl x11.gC (pk_cons (pv 3) pk_nil)) (pa_cons (pe_exoK0 x12.cl (hr.mono (by omega)) y12 rfl x12.gC (pk_cons (pv 3) pk_nil)) (pa_cons (pe_exoK0 x13.cl (hr.mono (by omega)) y13 rfl x13.gC (pk_cons (pv 3) pk_nil)) pa_nil)))) pa_nil)) (by rfl))
      (pss_cut (ps_set (i := 8) scLaw.nd rfl (Or.inl rfl) (pe_op op_cat (pe_op op_cat (pe_op op_cat (pe_lc (own := [("error", 12)]) (g := gName 12) (tt := tYes) rfl scLaw.nd (pi_list (pv 5)) (blkOk_by (own := [("error", 12)]) (N := ["script", "pen", "turn", "one", "two", "parts", "places", "values", "found", "text", "many", "at", "error", "spot", "is_so"]) (sc := defScope sLaw) (by decide +kernel)) (fun _ _ _ _ _ => pg_name (i := 12) scLaw.nd rfl (Or.inl rfl)) (fun _ _ _ _ _ => pts_nil) (fun _ _ _ _ _ => (pe_exAtK (K := K) (pv 12)))) (pe_lc (own := [("error", 12)]) (g := gName 12) (tt := tYes) rfl scLaw.nd (pi_list (pv 6)) (blkOk_by (own := [("error", 12)]) (N := ["script", "pen", "turn", "one", "two", "parts", "places", "values", "found", "text", "many", "at", "error", "spot", "is_so"]) (sc := defScope sLaw) (by decide +kernel)) (fun _ _ _ _ _ => pg_name (i := 12) scLaw.nd rfl (Or.inl rfl)) (fun _ _ _ _ _ => pts_nil) (fun _ _ _ _ _ => (pe_exAtK (K := K) (pv 12))))) (pe_lc (own := [("error", 12)]) (g := gName 12) (tt := tYes) rfl scLaw.nd (pi_list (pv 7)) (blkOk_by (own := [("error", 12)]) (N := ["script", "pen", "turn", "one", "two", "parts", "places", "values", "found", "text", "many", "at", "error", "spot", "is_so"]) (sc := defScope sLaw) (by decide +kernel)) (fun _ _ _ _ _ => pg_name (i := 12) scLaw.nd rfl (Or.inl rfl)) (fun _ _ _ _ _ => pts_nil) (fun _ _ _ _ _ => (pe_exAtK (K := K) (pv 12))))) (pe_lst (pa_cons (pe_exAt (pe_exoK0 x14.cl (hr.mono (by omega)) y14 rfl x14.gC (pk_cons (pv 3) pk_nil))) pa_nil))))
      (pss_cut (ps_par (i := 9) (j := 10) (by rfl) scLaw.nd rfl rfl (by decide) rfl rfl (pa_cons (pe_exoK x15.cl (hr.mono (by omega)) y15 (by decide) rfl x15.gC (pa_cons (pv 3) pa_nil) (pk_cons (pv 4) pk_nil)) (pa_cons (pe_exoK0 x16.cl (hr.mono (by omega)) y16 rfl x16.gC (pk_cons (pv 4) (pk_cons (pv 3) pk_nil))) pa_nil)) (by rfl))
      (pss_cut (ps_if (PW.pt (pw_or (pt_cmpR op_ne (pe_callB (call_repr hgd hu T.sys) (by rfl) B.repr (by decide +kernel) (pa_cons (pv 8) pa_nil)) (pe_callB (call_repr hgd hu T.sys) (by rfl) B.repr (by decide +kernel) (pa_cons (pe_op op_rep (pe_lst (pa_cons (pv 3) pa_nil)) pe_int) pa_nil)) (nomark _)) (pw_or1 (pt_cmpR op_ne (pe_callB (call_repr hgd hu T.sys) (by rfl) B.repr (by decide +kernel) (pa_cons (pe_lst (pa_cons (pe_exAt (pv 9)) (pa_cons (pe_exAt (pv 9)) (pa_cons (pe_exAt (pv 10)) (pa_cons (pe_exAt (pv 10)) pa_nil))))) pa_nil)) (pe_callB (call_repr hgd hu T.sys) (by rfl) B.repr (by decide +kernel) (pa_cons (pe_lst (pa_cons (pv 3) (pa_cons (pv 4) (pa_cons (pv 3) (pa_cons (pv 4) pa_nil))))) pa_nil)) (nomark _))))) (pss_one (ps_ret pe_bl)) pss_nil)
      (pss_one (ps_for PassesOwn.never rfl (pi_enum (by rfl) B.enum (pa_cons (pe_op op_cat (pe_op op_cat (pe_op op_cat (pv 5) (pv 6)) (pv 7)) (pe_lst (pa_cons (pe_exo x14.cl (hr.mono (by omega)) z14 (by decide) rfl x14.gC (pa_cons (pv 3) pa_nil)) (pa_cons (pv 9) (pa_cons (pv 10) (pa_cons (pe_exo0 PySem.F.excBase_ValueError T.no.2.1 T.no.1 T.no.2.2 rfl) pa_nil)))))) pa_nil)) (pg_tup rfl (pgs_cons (pg_name (i := 11) scLaw.nd rfl (Or.inl rfl)) (pgs_cons (pg_name (i := 12) scLaw.nd rfl (Or.inl rfl)) pgs_nil))) (pss_one (ps_if (PW.pt (pw_or (pt_not (pt_val (pe_callB call_isX (by rfl) B.isin (by decide +kernel) (pa_cons (pv 12) (pa_cons (pe_glob (v := .ref _) rfl T.glS rfl) pa_nil))))) (pw_or (pt_not (pt_val (pe_callB call_isX (by rfl) B.isin (by decide +kernel) (pa_cons (pv 12) (pa_cons (pe_bltn (v := .ty "ValueError") rfl T.val (by decide +kernel) rfl) pa_nil))))) (pw_or1 (pt_cmpR (op_neD hr.units) (pe_lc (own := [("spot", 13), ("is_so", 14)]) (g := _) (tt := _) rfl scLaw.nd (pi_enum (by rfl) B.enum (pa_cons (pe_call GK (hr.mono (by omega)) rfl mK FK.kp bK .nil pass0 (pa_cons (pv 12) pa_nil)) pa_nil)) (blkOk_by (own := [("spot", 13), ("is_so", 14)]) (N := ["script", "pen", "turn", "one", "two", "parts", "places", "values", "found", "text", "many", "at", "error", "spot", "is_so"]) (sc := defScope sLaw) (by decide +kernel)) (fun _ _ _ _ _ => pg_tupK (K := K) (m := 2) rfl (pgs_cons (pg_name (i := 13) scLaw.nd rfl (Or.inl rfl)) (pgs_cons (pg_name (i := 14) scLaw.nd rfl (Or.inl rfl)) pgs_nil))) (fun _ _ _ _ _ => pts_one (pt_val (pv 14))) (fun _ _ _ _ _ => (pv 13))) (pe_lst (pa_cons (pv 11) pa_nil)) (nomark _)))))) (pss_one (ps_ret pe_bl)) pss_nil)))))))))))
      (pss_one (ps_ret pe_bl)))), ?_⟩
    refine ⟨_, rfl, a, ns, rfl, hS, hl, fun p c0 H1 hp s1 hP => ?_⟩
    refine ⟨6, rfl, by decide, by decide, ?_⟩
    refine for_it walk_range (fun i σ H => (∃ t2 t3 t4 t5 t6 t7 t8 t9 t10 t11 t12 t13 t14, σ = [some (.ref a), some (.ref p), t2, t3, t4, t5, t6, t7, t8, t9, t10, t11, t12, t13, t14]) ∧ Pen H p c0 (192 - 32 * i)) ⟨⟨_, _, _, _, _, _, _, _, _, _, _, _, _, rfl⟩, hP.less (by decide)⟩ (fun _ _ _ _ _ => trivial) ?_ (fun σ H2 _ => k H2)
    rintro i x σ H2 _ hi ⟨⟨t2, t3, t4, t5, t6, t7, t8, t9, t10, t11, t12, t13, t14, rfl⟩, hP2⟩ ⟨rfl, rfl⟩
    refine ⟨fun σ3 H3 => ∃ one two d1 d2, σ3 = [some (.ref a), some (.ref p), some (.int (0 + (i : Nat))), some one, some two, t5, t6, t7, t8, t9, t10, t11, t12, t13, t14] ∧ Two K H3 one two d1 d2 ∧ Pen H3 p c0 (192 - 32 * (i + 1)), ?_, ?_⟩
    · refine ⟨_, rfl, p, c0, 192 - 32 * (i + 1) + 10, rfl, hP2.less (by show 192 - 32 * (i + 1) + 10 + 22 ≤ _; omega), fun one d1 H3 z1 v1 b1 p1 => ?_⟩
      refine ⟨_, rfl, p, c0, 192 - 32 * (i + 1), rfl, p1.less (by show 192 - 32 * (i + 1) + 10 ≤ _; omega), fun two d2 H4 z2 v2 b2 p2 => ?_⟩
      refine ⟨one, two, rfl, one, two, d1, d2, rfl, ⟨z1, z2, v1.mono fun b u e => ?_, v2.mono fun b u e => ?_⟩, p2⟩
      · obtain ⟨q1, q2⟩ := nw_to e
        exact b2 b u (hP2.ne q1) q2
      · exact (nw_to e).2
    · rintro σ3 H3 ⟨one, two, d1, d2, rfl, W, hP3⟩

      refine ⟨fun σ4 H4 => ∃ (lp : Addr) (es : List Addr), σ4 = [some (.ref a), some (.ref p), some (.int (0 + (i : Nat))), some one, some two, some (.ref lp), t6, t7, t8, t9, t10, t11, t12, t13, t14] ∧ St H3 H4 c one 0 es ∧ es.length = 9 ∧ H4 lp = some (.lst (es.map V.ref)), ?_, ?_⟩
      · -- parts
        have S0 : St H3 H3 c one 0 [] := St.nil
        refine ⟨_, rfl, rfl, rfl, rfl, fun q0 e0 u0 v0 w0 => ?_⟩
        have S1 := S0.snoc 0 u0 v0 w0 rfl
        refine ⟨_, rfl, rfl, rfl, rfl, fun q1 e1 u1 v1 w1 => ?_⟩
        have S2 := S1.snoc 1 u1 v1 w1 rfl
        refine ⟨_, rfl, rfl, rfl, rfl, fun q2 e2 u2 v2 w2 => ?_⟩
        have S3 := S2.snoc 2 u2 v2 w2 rfl
        refine ⟨_, rfl, rfl, rfl, rfl, fun q3 e3 u3 v3 w3 => ?_⟩
        have S4 := S3.snoc 3 u3 v3 w3 rfl
        refine ⟨_, rfl, rfl, rfl, rfl, fun q4 e4 u4 v4 w4 => ?_⟩
        have S5 := S4.snoc 4 u4 v4 w4 rfl
        refine ⟨_, rfl, rfl, rfl, rfl, fun q5 e5 u5 v5 w5 => ?_⟩
        have S6 := S5.snoc 5 u5 v5 w5 rfl
        refine ⟨_, rfl, rfl, rfl, rfl, fun q6 e6 u6 v6 w6 => ?_⟩
        have S7 := S6.snoc 6 u6 v6 w6 rfl
        refine ⟨_, rfl, rfl, rfl, rfl, fun q7 e7 u7 v7 w7 => ?_⟩
        have S8 := S7.snoc 7 u7 v7 w7 rfl
        refine ⟨_, rfl, rfl, rfl, rfl, fun q8 e8 u8 v8 w8 => ?_⟩
        have S9 := S8.snoc 8 u8 v8 w8 rfl
        refine ⟨by show 9 ≤ sizeLine; decide, fun lp hlp => ?_⟩
        exact ⟨lp, [] ++ [e0] ++ [e1] ++ [e2] ++ [e3] ++ [e4] ++ [e5] ++ [e6] ++ [e7] ++ [e8], rfl, S9.more (up2 hlp), rfl, upd_same⟩
      rintro σ4 H4 ⟨lp, es, rfl, Sp, lenP, hp4⟩
      refine ⟨fun σ5 H5 => ∃ (l6 l7 : Addr) (f6 f7 : List Addr), σ5 = [some (.ref a), some (.ref p), some (.int (0 + (i : Nat))), some one, some two, some (.ref lp), some (.ref l6), some (.ref l7), t8, t9, t10, t11, t12, t13, t14] ∧ (St H4 H5 c one 9 f6 ∧ f6.length = 2 ∧ H5 l6 = some (.lst (f6.map V.ref))) ∧ (St H4 H5 c one 11 f7 ∧ f7.length = 3 ∧ H5 l7 = some (.lst (f7.map V.ref))), ?_, ?_⟩
      · -- places, values
        have S0 : St H4 H4 c one 9 [] := St.nil
        refine ⟨_, rfl, rfl, rfl, rfl, fun q9 e9 u9 v9 w9 => ?_⟩
        have S1 := S0.snoc 9 u9 v9 w9 rfl
        refine ⟨_, rfl, rfl, rfl, rfl, fun q10 e10 u10 v10 w10 => ?_⟩
        have S2 := S1.snoc 10 u10 v10 w10 rfl
        refine ⟨by show 2 ≤ sizeLine; decide, fun l6 h6 => ?_⟩
        have SA := S2.more (up2 (o := .lst [V.ref e9, V.ref e10]) h6)
        have ha := upd_same (H := (upd (upd (upd (upd H4 q9 (.xd [(fl 9, one)])) e9 (ExV (c 9) q9 e9)) q10 (.xd [(fl 10, one)])) e10 (ExV (c 10) q10 e10))) (a := l6) (o := .lst [V.ref e9, V.ref e10])
        have R0 : St (upd (upd (upd (upd (upd H4 q9 (.xd [(fl 9, one)])) e9 (ExV (c 9) q9 e9)) q10 (.xd [(fl 10, one)])) e10 (ExV (c 10) q10 e10)) l6 (.lst [V.ref e9, V.ref e10])) (upd (upd (upd (upd (upd H4 q9 (.xd [(fl 9, one)])) e9 (ExV (c 9) q9 e9)) q10 (.xd [(fl 10, one)])) e10 (ExV (c 10) q10 e10)) l6 (.lst [V.ref e9, V.ref e10])) c one 11 [] := St.nil
        refine ⟨_, rfl, rfl, rfl, rfl, fun q11 e11 u11 v11 w11 => ?_⟩
        have R1 := R0.snoc 11 u11 v11 w11 rfl
        refine ⟨_, rfl, rfl, rfl, rfl, fun q12 e12 u12 v12 w12 => ?_⟩
        have R2 := R1.snoc 12 u12 v12 w12 rfl
        refine ⟨_, rfl, rfl, rfl, rfl, fun q13 e13 u13 v13 w13 => ?_⟩
        have R3 := R2.snoc 13 u13 v13 w13 rfl
        refine ⟨by show 3 ≤ sizeLine; decide, fun l7 h7 => ?_⟩
        have SB := R3.more (up2 (o := .lst [V.ref e11, V.ref e12, V.ref e13]) h7)
        exact ⟨.ref l6, .ref l7, rfl, l6, l7, [] ++ [e9] ++ [e10], [] ++ [e11] ++ [e12] ++ [e13], rfl, ⟨SA.more SB.keep, rfl, SB.keep l6 _ ha⟩, ⟨⟨fun b u e => SB.keep b u (SA.keep b u e), SB.ers⟩, rfl, upd_same⟩⟩
      rintro σ5 H5 ⟨l6, l7, f6, f7, rfl, ⟨S6, len6, hp6⟩, ⟨S7, len7, hp7⟩⟩
      refine ⟨fun σ6 H6 => ∃ lf : Addr, σ6 = [some (.ref a), some (.ref p), some (.int (0 + (i : Nat))), some one, some two, some (.ref lp), some (.ref l6), some (.ref l7), some (.ref lf), t9, t10, t11, t12, t13, t14] ∧ (∀ b u, H5 b = some u → H6 b = some u) ∧ H6 lf = some (.lst (List.replicate 15 one)), ?_, ?_⟩
      · -- found
        have hpP : H5 lp = some (.lst (es.map V.ref)) := S6.keep _ _ hp4
        have SP : St H3 H5 c one 0 es := Sp.more S6.keep
        refine ⟨_, rfl, lp, rfl, ⟨_, SqL.of hpP⟩, fun D0 hD0 => ?_⟩
        refine lc_list (K := K) (a := lp) (xs := es.map V.ref) (fun i H' => (∀ b u, H5 b = some u → H' b = some u) ∧ H' D0 = some (.lst (List.replicate i one))) ⟨up2 hD0, upd_same⟩ (fun i H' _ h => SqL.of (h.1 _ _ hpP)) ?_ ?_
        · rintro i y H' hi ⟨kk, hacc⟩
          obtain ⟨e, he, rfl⟩ := ref_of hi
          have hi9 : i < 9 := by rw [← lenP]; exact (List.getElem?_eq_some_iff.mp he).1
          have hfl : fl (0 + i) = "part" := by
            unfold fl
            rw [if_pos (by omega)]
          have hat := T.at (0 + i) (by omega)
          rw [hfl] at hat
          have her := Er.mono kk (SP.ers i e he)
          rw [hfl] at her
          refine ⟨rfl, ?_⟩
          simp only [tYes, if_true]
          refine ⟨_, rfl, c (0 + i), e, _, one, rfl, her, by simp [List.lookup], hat, _, hacc, by rw [List.length_replicate, sizeLine_eq]; omega, fun b u q => ?_, ?_⟩
          · rw [upd_ne (ne_of_none q hD0)]
            exact kk b u q
          · rw [upd_same, List.replicate_succ']
        · rintro G0 ⟨kD0, aD0⟩
          rw [List.length_map, lenP] at aD0
          have h6G := kD0 _ _ hp6
          have S6G := S6.more kD0
          refine ⟨_, rfl, l6, rfl, ⟨_, SqL.of h6G⟩, fun D1 hD1 => ?_⟩
          refine lc_list (K := K) (a := l6) (xs := f6.map V.ref) (fun i H' => (∀ b u, G0 b = some u → H' b = some u) ∧ H' D1 = some (.lst (List.replicate i one))) ⟨up2 hD1, upd_same⟩ (fun i H' _ h => SqL.of (h.1 _ _ h6G)) ?_ ?_
          · rintro i y H' hi ⟨kk, hacc⟩
            obtain ⟨e, he, rfl⟩ := ref_of hi
            have hi9 : i < 2 := by rw [← len6]; exact (List.getElem?_eq_some_iff.mp he).1
            have hfl : fl (9 + i) = "at" := by
              unfold fl
              rw [if_neg (by omega)]
              rw [if_pos (by omega)]
            have hat := T.at (9 + i) (by omega)
            rw [hfl] at hat
            have her := Er.mono kk (S6G.ers i e he)
            rw [hfl] at her
            refine ⟨rfl, ?_⟩
            simp only [tYes, if_true]
            refine ⟨_, rfl, c (9 + i), e, _, one, rfl, her, by simp [List.lookup], hat, _, hacc, by rw [List.length_replicate, sizeLine_eq]; omega, fun b u q => ?_, ?_⟩
            · rw [upd_ne (ne_of_none q hD1)]
              exact kk b u q
            · rw [upd_same, List.replicate_succ']
          · rintro G1 ⟨kD1, aD1⟩
            rw [List.length_map, len6] at aD1
            have aD0 := kD1 _ _ aD0
            refine ⟨D0, D1, _, _, rfl, rfl, aD0, aD1, by rw [List.length_replicate, List.length_replicate]; decide, fun m0 hm0 => ?_⟩
            have am0 := upd_same (H := G1) (a := m0) (o := .lst (List.replicate 9 one ++ List.replicate 2 one))
            have kG2 : ∀ b u, H5 b = some u → upd G1 m0 (.lst (List.replicate 9 one ++ List.replicate 2 one)) b = some u := fun b u e => up2 hm0 b u (kD1 b u (kD0 b u e))
            have h7G := kG2 _ _ hp7
            have S7G := S7.more kG2
            refine ⟨_, rfl, l7, rfl, ⟨_, SqL.of h7G⟩, fun D2 hD2 => ?_⟩
            refine lc_list (K := K) (a := l7) (xs := f7.map V.ref) (fun i H' => (∀ b u, (upd G1 m0 (.lst (List.replicate 9 one ++ List.replicate 2 one))) b = some u → H' b = some u) ∧ H' D2 = some (.lst (List.replicate i one))) ⟨up2 hD2, upd_same⟩ (fun i H' _ h => SqL.of (h.1 _ _ h7G)) ?_ ?_
            · rintro i y H' hi ⟨kk, hacc⟩
              obtain ⟨e, he, rfl⟩ := ref_of hi
              have hi9 : i < 3 := by rw [← len7]; exact (List.getElem?_eq_some_iff.mp he).1
              have hfl : fl (11 + i) = "value" := by
                unfold fl
                rw [if_neg (by omega)]
                rw [if_neg (by omega)]
                rw [if_pos (by omega)]
              have hat := T.at (11 + i) (by omega)
              rw [hfl] at hat
              have her := Er.mono kk (S7G.ers i e he)
              rw [hfl] at her
              refine ⟨rfl, ?_⟩
              simp only [tYes, if_true]
              refine ⟨_, rfl, c (11 + i), e, _, one, rfl, her, by simp [List.lookup], hat, _, hacc, by rw [List.length_replicate, sizeLine_eq]; omega, fun b u q => ?_, ?_⟩
              · rw [upd_ne (ne_of_none q hD2)]
                exact kk b u q
              · rw [upd_same, List.replicate_succ']
            · rintro G2 ⟨kD2, aD2⟩
              rw [List.length_map, len7] at aD2
              have am0 := kD2 _ _ am0
              refine ⟨m0, D2, _, _, rfl, rfl, am0, aD2, by rw [List.length_append, List.length_replicate, List.length_replicate, List.length_replicate]; decide, fun m1 hm1 => ?_⟩
              refine ⟨_, rfl, rfl, rfl, rfl, fun q e u v w => ⟨c 14, e, _, one, rfl, er_new w, rfl, T.at 14 (by decide), ?_⟩⟩
              refine ⟨by show 1 ≤ sizeLine; decide, fun m2 hm2 => ?_⟩
              have kf := two_up (o := .xd [(fl 14, one)]) (o' := ExV (c 14) q e) u v w
              refine ⟨m1, m2, _, _, rfl, rfl, up2 hm2 _ _ (kf _ _ upd_same), upd_same, by show 15 ≤ sizeLine; decide, fun lf hlf => ?_⟩
              exact ⟨lf, rfl, fun b x y => up2 hlf b x (up2 hm2 b x (kf b x (up2 hm1 b x (kD2 b x (kG2 b x y))))), upd_same⟩
      rintro σ6 H6 ⟨lf, rfl, k6, hf6⟩
      have W6 := W.mono fun b u e => k6 b u (S6.keep b u (Sp.keep b u e))
      have P6 := hP3.keep fun b u e => k6 b u (S6.keep b u (Sp.keep b u e))
      refine ⟨fun σ7 H7 => ∃ et em : Addr, σ7 = [some (.ref a), some (.ref p), some (.int (0 + (i : Nat))), some one, some two, some (.ref lp), some (.ref l6), some (.ref l7), some (.ref lf), some (.ref et), some (.ref em), t11, t12, t13, t14] ∧ (∀ b u, H6 b = some u → H7 b = some u) ∧ Er H7 (c 15) et [("line", one), ("word", two)] ∧ Er H7 (c 16) em [("what", one), ("most", two)], ?_, ?_⟩
      · -- text, many
        refine ⟨_, rfl, _, rfl, rfl, rfl, rfl, fun q e u v w => ?_⟩
        refine ⟨_, rfl, _, rfl, rfl, rfl, rfl, fun q' e' u' v' w' => ?_⟩
        exact ⟨.ref e, .ref e', rfl, e, e', rfl, fun b x y => two_up u' v' w' b x (two_up u v w b x y), Er.mono (two_up u' v' w') (er_new w), er_new w'⟩
      rintro σ7 H7 ⟨et, em, rfl, k7, ht7, hm7⟩
      have W7 := W6.mono k7
      have P7 := P6.keep k7
      refine ⟨fun σ8 H8 => σ8 = [some (.ref a), some (.ref p), some (.int (0 + (i : Nat))), some one, some two, some (.ref lp), some (.ref l6), some (.ref l7), some (.ref lf), some (.ref et), some (.ref em), t11, t12, t13, t14] ∧ (∀ b u, H7 b = some u → H8 b = some u), ?_, ?_⟩
      · -- if repr(found) != ..
        have hf7 := k7 _ _ hf6
        have z1 := sz_seq (k := 0) (ds := List.replicate 15 d1) (n := 3) fun d hd => by rw [List.eq_of_mem_replicate hd]; exact W7.s1
        have b1 : (PyData.shown (.list (List.replicate 15 d1))).length ≤ 16777216 := Nat.le_trans z1.2.2 (by rw [List.length_replicate]; decide)
        have dp1 : PyData.depth (.list (List.replicate 15 d1)) ≤ 64 := Nat.le_trans z1.2.1 (by decide)
        have dv1 : ∀ {G : Hp}, (∀ b u, H7 b = some u → G b = some u) → DvAll K G (List.replicate 15 one) (List.replicate 15 d1) := fun kk => dv_rep 15 (W7.v1.mono kk)
        refine ⟨_, rfl, lf, .list (List.replicate 15 d1), rfl, .lst (SqL.of hf7) (dv1 fun _ _ e => e), z1.1, dp1, b1, ?_⟩
        refine ⟨_, rfl, by show 1 ≤ sizeLine; decide, fun o1 ho1 => ?_⟩
        refine ⟨o1, 15, [one], rfl, rfl, upd_same, by decide, by decide, by show 15 ≤ sizeLine; decide, fun o2 ho2 => ?_⟩
        have k2 : ∀ b u, H7 b = some u → upd (upd H7 o1 (.lst [one])) o2 (.lst (List.replicate 15 one)) b = some u := fun b u e => up2 ho2 b u (up2 ho1 b u e)
        refine ⟨o2, .list (List.replicate 15 d1), rfl, .lst (SqL.of (upd_same (o := .lst (List.replicate 15 one)))) (dv1 k2), z1.1, dp1, b1, ?_⟩
        refine ⟨rfl, _, rfl, ?_⟩
        rw [decide_eq_true (rfl : V.str (PyData.shown (.list (List.replicate 15 d1))) = V.str (PyData.shown (.list (List.replicate 15 d1))))]
        refine iteF ?_
        have ht := Er.mono k2 ht7
        have hm := Er.mono k2 hm7
        refine ⟨_, rfl, c 15, et, _, one, rfl, ht, rfl, x15.fl "line" (by simp), _, rfl, c 15, et, _, two, rfl, ht, rfl, x15.fl "word" (by simp), _, rfl, c 16, em, _, one, rfl, hm, rfl, x16.fl "what" (by simp), _, rfl, c 16, em, _, two, rfl, hm, rfl, x16.fl "most" (by simp), ?_⟩
        refine ⟨by show 4 ≤ sizeLine; decide, fun o3 ho3 => ?_⟩
        have z2 := sz_seq (k := 0) (ds := [d1, d2, d1, d2]) (n := 3) fun d hd => by
          simp only [List.mem_cons, List.not_mem_nil, or_false] at hd
          rcases hd with rfl | rfl | rfl | rfl
          · exact W7.s1
          · exact W7.s2.mono (by decide)
          · exact W7.s1
          · exact W7.s2.mono (by decide)
        have b2 : (PyData.shown (.list [d1, d2, d1, d2])).length ≤ 16777216 := Nat.le_trans z2.2.2 (by show 4 * (Lm 3 + 2) + 3 ≤ _; decide)
        have dp2 : PyData.depth (.list [d1, d2, d1, d2]) ≤ 64 := Nat.le_trans z2.2.1 (by decide)
        have dv2 : ∀ {G : Hp}, (∀ b u, H7 b = some u → G b = some u) → DvAll K G [one, two, one, two] [d1, d2, d1, d2] := fun kk => .cons (W7.v1.mono kk) (.cons (W7.v2.mono kk) (.cons (W7.v1.mono kk) (.cons (W7.v2.mono kk) .nil)))
        refine ⟨o3, .list [d1, d2, d1, d2], rfl, .lst (SqL.of (upd_same (o := .lst [one, two, one, two]))) (dv2 fun b u e => up2 ho3 b u (k2 b u e)), z2.1, dp2, b2, ?_⟩
        refine ⟨_, rfl, _, rfl, _, rfl, _, rfl, by show 4 ≤ sizeLine; decide, fun o4 ho4 => ?_⟩
        refine ⟨o4, .list [d1, d2, d1, d2], rfl, .lst (SqL.of (upd_same (o := .lst [one, two, one, two]))) (dv2 fun b u e => up2 ho4 b u (up2 ho3 b u (k2 b u e))), z2.1, dp2, b2, ?_⟩
        refine ⟨rfl, _, rfl, ?_⟩
        rw [decide_eq_true (rfl : V.str (PyData.shown (.list [d1, d2, d1, d2])) = V.str (PyData.shown (.list [d1, d2, d1, d2])))]
        refine iteF ?_
        exact ⟨rfl, fun b u e => up2 ho4 b u (up2 ho3 b u (k2 b u e))⟩
      rintro σ8 H8 ⟨rfl, k8⟩
      -- for at, error in enumerate(..)
      have kp8 : ∀ b u, H4 b = some u → H8 b = some u := fun b u e => k8 b u (k7 b u (k6 b u (S6.keep b u e)))
      have k58 : ∀ b u, H5 b = some u → H8 b = some u := fun b u e => k8 b u (k7 b u (k6 b u e))
      have l0 : (es.map V.ref).length = 9 := by rw [List.length_map, lenP]
      have l6' : (f6.map V.ref).length = 2 := by rw [List.length_map, len6]
      have l7' : (f7.map V.ref).length = 3 := by rw [List.length_map, len7]
      refine ⟨_, rfl, _, rfl, lp, l6, _, _, rfl, rfl, kp8 _ _ hp4, k58 _ _ hp6, by rw [l0, l6']; decide, fun n0 hn0 => ?_⟩
      refine ⟨_, rfl, n0, l7, _, _, rfl, rfl, upd_same, up2 hn0 _ _ (k58 _ _ hp7), by rw [List.length_append, l0, l6', l7']; decide, fun n1 hn1 => ?_⟩
      refine ⟨_, rfl, rfl, fun q e u v w => ⟨_, rfl, _, rfl, fun e0 he0 => ⟨by show 4 ≤ sizeLine; decide, fun n2 hn2 => ?_⟩⟩⟩
      have kA : ∀ b u, H8 b = some u → (upd (upd H8 n0 (.lst (es.map V.ref ++ f6.map V.ref))) n1 (.lst ((es.map V.ref ++ f6.map V.ref) ++ f7.map V.ref))) b = some u := fun b u e => up2 hn1 b u (up2 hn0 b u e)
      have kB : ∀ b u, (upd (upd H8 n0 (.lst (es.map V.ref ++ f6.map V.ref))) n1 (.lst ((es.map V.ref ++ f6.map V.ref) ++ f7.map V.ref))) b = some u → (upd (upd (upd (upd H8 n0 (.lst (es.map V.ref ++ f6.map V.ref))) n1 (.lst ((es.map V.ref ++ f6.map V.ref) ++ f7.map V.ref))) q (.xd [("word", one)])) e (ExV (c 14) q e)) b = some u := two_up u v w
      have kC : ∀ b u, (upd (upd (upd (upd H8 n0 (.lst (es.map V.ref ++ f6.map V.ref))) n1 (.lst ((es.map V.ref ++ f6.map V.ref) ++ f7.map V.ref))) q (.xd [("word", one)])) e (ExV (c 14) q e)) b = some u → (upd (upd (upd (upd (upd H8 n0 (.lst (es.map V.ref ++ f6.map V.ref))) n1 (.lst ((es.map V.ref ++ f6.map V.ref) ++ f7.map V.ref))) q (.xd [("word", one)])) e (ExV (c 14) q e)) e0 (ExO (.ref (c 17)) e0)) b = some u := up2 he0
      have kD : ∀ b u, (upd (upd (upd (upd (upd H8 n0 (.lst (es.map V.ref ++ f6.map V.ref))) n1 (.lst ((es.map V.ref ++ f6.map V.ref) ++ f7.map V.ref))) q (.xd [("word", one)])) e (ExV (c 14) q e)) e0 (ExO (.ref (c 17)) e0)) b = some u → (upd (upd (upd (upd (upd (upd H8 n0 (.lst (es.map V.ref ++ f6.map V.ref))) n1 (.lst ((es.map V.ref ++ f6.map V.ref) ++ f7.map V.ref))) q (.xd [("word", one)])) e (ExV (c 14) q e)) e0 (ExO (.ref (c 17)) e0)) n2 (.lst [V.ref e, V.ref et, V.ref em, V.ref e0])) b = some u := up2 hn2
      refine ⟨n1, n2, _, _, rfl, rfl, kD _ _ (kC _ _ (kB _ _ upd_same)), upd_same, by rw [List.length_append, List.length_append, l0, l6', l7']; show 18 ≤ sizeLine; decide, fun n3 hn3 => ?_⟩
      have kL : ∀ b u, (upd (upd (upd (upd (upd (upd H8 n0 (.lst (es.map V.ref ++ f6.map V.ref))) n1 (.lst ((es.map V.ref ++ f6.map V.ref) ++ f7.map V.ref))) q (.xd [("word", one)])) e (ExV (c 14) q e)) e0 (ExO (.ref (c 17)) e0)) n2 (.lst [V.ref e, V.ref et, V.ref em, V.ref e0])) b = some u → (upd (upd (upd (upd (upd (upd (upd H8 n0 (.lst (es.map V.ref ++ f6.map V.ref))) n1 (.lst ((es.map V.ref ++ f6.map V.ref) ++ f7.map V.ref))) q (.xd [("word", one)])) e (ExV (c 14) q e)) e0 (ExO (.ref (c 17)) e0)) n2 (.lst [V.ref e, V.ref et, V.ref em, V.ref e0])) n3 (.lst (((es.map V.ref ++ f6.map V.ref) ++ f7.map V.ref) ++ [V.ref e, V.ref et, V.ref em, V.ref e0]))) b = some u := up2 hn3
      have eN : (upd (upd (upd (upd (upd (upd (upd H8 n0 (.lst (es.map V.ref ++ f6.map V.ref))) n1 (.lst ((es.map V.ref ++ f6.map V.ref) ++ f7.map V.ref))) q (.xd [("word", one)])) e (ExV (c 14) q e)) e0 (ExO (.ref (c 17)) e0)) n2 (.lst [V.ref e, V.ref et, V.ref em, V.ref e0])) n3 (.lst (((es.map V.ref ++ f6.map V.ref) ++ f7.map V.ref) ++ [V.ref e, V.ref et, V.ref em, V.ref e0]))) n3 = some (.lst (((es.map V.ref ++ f6.map V.ref) ++ f7.map V.ref) ++ [V.ref e, V.ref et, V.ref em, V.ref e0])) := upd_same
      have eBL : Er (upd (upd (upd (upd (upd (upd (upd H8 n0 (.lst (es.map V.ref ++ f6.map V.ref))) n1 (.lst ((es.map V.ref ++ f6.map V.ref) ++ f7.map V.ref))) q (.xd [("word", one)])) e (ExV (c 14) q e)) e0 (ExO (.ref (c 17)) e0)) n2 (.lst [V.ref e, V.ref et, V.ref em, V.ref e0])) n3 (.lst (((es.map V.ref ++ f6.map V.ref) ++ f7.map V.ref) ++ [V.ref e, V.ref et, V.ref em, V.ref e0]))) (c 14) e [("word", one)] := Er.mono (fun b u x => kL b u (kD b u (kC b u x))) (er_new w)
      have eNo : (upd (upd (upd (upd (upd (upd (upd H8 n0 (.lst (es.map V.ref ++ f6.map V.ref))) n1 (.lst ((es.map V.ref ++ f6.map V.ref) ++ f7.map V.ref))) q (.xd [("word", one)])) e (ExV (c 14) q e)) e0 (ExO (.ref (c 17)) e0)) n2 (.lst [V.ref e, V.ref et, V.ref em, V.ref e0])) n3 (.lst (((es.map V.ref ++ f6.map V.ref) ++ f7.map V.ref) ++ [V.ref e, V.ref et, V.ref em, V.ref e0]))) e0 = some (ExO (.ref (c 17)) e0) := kL _ _ (kD _ _ upd_same)
      have k8L : ∀ b u, H8 b = some u → (upd (upd (upd (upd (upd (upd (upd H8 n0 (.lst (es.map V.ref ++ f6.map V.ref))) n1 (.lst ((es.map V.ref ++ f6.map V.ref) ++ f7.map V.ref))) q (.xd [("word", one)])) e (ExV (c 14) q e)) e0 (ExO (.ref (c 17)) e0)) n2 (.lst [V.ref e, V.ref et, V.ref em, V.ref e0])) n3 (.lst (((es.map V.ref ++ f6.map V.ref) ++ f7.map V.ref) ++ [V.ref e, V.ref et, V.ref em, V.ref e0]))) b = some u := fun b u x => kL b u (kD b u (kC b u (kB b u (kA b u x))))
      clear kA kB kC kD kL
      refine ⟨n3, _, rfl, SqL.of upd_same, ?_⟩
      have len18 : (((es.map V.ref ++ f6.map V.ref) ++ f7.map V.ref) ++ [V.ref e, V.ref et, V.ref em, V.ref e0]).length = 18 := by
        rw [List.length_append, List.length_append, List.length_append, l0, l6', l7']
        rfl
      have all : ∀ j y, j < 18 → (((es.map V.ref ++ f6.map V.ref) ++ f7.map V.ref) ++ [V.ref e, V.ref et, V.ref em, V.ref e0])[j]? = some y → ∃ b, y = .ref b ∧ ErC (upd (upd (upd (upd (upd (upd (upd H8 n0 (.lst (es.map V.ref ++ f6.map V.ref))) n1 (.lst ((es.map V.ref ++ f6.map V.ref) ++ f7.map V.ref))) q (.xd [("word", one)])) e (ExV (c 14) q e)) e0 (ExO (.ref (c 17)) e0)) n2 (.lst [V.ref e, V.ref et, V.ref em, V.ref e0])) n3 (.lst (((es.map V.ref ++ f6.map V.ref) ++ f7.map V.ref) ++ [V.ref e, V.ref et, V.ref em, V.ref e0]))) (c j) b := by
        have kp : ∀ b u, H4 b = some u → (upd (upd (upd (upd (upd (upd (upd H8 n0 (.lst (es.map V.ref ++ f6.map V.ref))) n1 (.lst ((es.map V.ref ++ f6.map V.ref) ++ f7.map V.ref))) q (.xd [("word", one)])) e (ExV (c 14) q e)) e0 (ExO (.ref (c 17)) e0)) n2 (.lst [V.ref e, V.ref et, V.ref em, V.ref e0])) n3 (.lst (((es.map V.ref ++ f6.map V.ref) ++ f7.map V.ref) ++ [V.ref e, V.ref et, V.ref em, V.ref e0]))) b = some u := fun b u x => k8L b u (kp8 b u x)
        have k5 : ∀ b u, H5 b = some u → (upd (upd (upd (upd (upd (upd (upd H8 n0 (.lst (es.map V.ref ++ f6.map V.ref))) n1 (.lst ((es.map V.ref ++ f6.map V.ref) ++ f7.map V.ref))) q (.xd [("word", one)])) e (ExV (c 14) q e)) e0 (ExO (.ref (c 17)) e0)) n2 (.lst [V.ref e, V.ref et, V.ref em, V.ref e0])) n3 (.lst (((es.map V.ref ++ f6.map V.ref) ++ f7.map V.ref) ++ [V.ref e, V.ref et, V.ref em, V.ref e0]))) b = some u := fun b u x => k8L b u (k58 b u x)
        have k7' : ∀ b u, H7 b = some u → (upd (upd (upd (upd (upd (upd (upd H8 n0 (.lst (es.map V.ref ++ f6.map V.ref))) n1 (.lst ((es.map V.ref ++ f6.map V.ref) ++ f7.map V.ref))) q (.xd [("word", one)])) e (ExV (c 14) q e)) e0 (ExO (.ref (c 17)) e0)) n2 (.lst [V.ref e, V.ref et, V.ref em, V.ref e0])) n3 (.lst (((es.map V.ref ++ f6.map V.ref) ++ f7.map V.ref) ++ [V.ref e, V.ref et, V.ref em, V.ref e0]))) b = some u := fun b u x => k8L b u (k8 b u x)
        clear eN k8L
        intro j y hj hy
        by_cases h9 : j < 9
        · rw [List.append_assoc, List.append_assoc, List.getElem?_append_left (by rw [l0]; exact h9)] at hy
          obtain ⟨b, hb, rfl⟩ := ref_of hy
          have z := Er.mono kp (Sp.ers j b hb)
          rw [Nat.zero_add] at z
          exact ⟨b, rfl, .inl ⟨_, z⟩⟩
        · by_cases h11 : j < 11
          · rw [List.append_assoc, List.append_assoc, List.getElem?_append_right (by rw [l0]; omega), l0, List.getElem?_append_left (by rw [l6']; omega)] at hy
            obtain ⟨b, hb, rfl⟩ := ref_of hy
            have z := Er.mono k5 (S6.ers (j - 9) b hb)
            have ej : 9 + (j - 9) = j := by omega
            rw [ej] at z
            exact ⟨b, rfl, .inl ⟨_, z⟩⟩
          · by_cases h14 : j < 14
            · rw [List.append_assoc, List.append_assoc, List.getElem?_append_right (by rw [l0]; omega), l0, List.getElem?_append_right (by rw [l6']; omega), l6', List.getElem?_append_left (by rw [l7']; omega)] at hy
              obtain ⟨b, hb, rfl⟩ := ref_of hy
              have z := Er.mono k5 (S7.ers (j - 9 - 2) b hb)
              have ej : 11 + (j - 9 - 2) = j := by omega
              rw [ej] at z
              exact ⟨b, rfl, .inl ⟨_, z⟩⟩
            · rw [List.append_assoc, List.append_assoc, List.getElem?_append_right (by rw [l0]; omega), l0, List.getElem?_append_right (by rw [l6']; omega), l6', List.getElem?_append_right (by rw [l7']; omega), l7'] at hy
              obtain ⟨m, rfl⟩ : ∃ m, j = 14 + m := ⟨j - 14, by omega⟩
              have em' : 14 + m - 9 - 2 - 3 = m := by omega
              rw [em'] at hy
              match m, hy with
              | 0, hy => exact ⟨e, (Option.some.inj hy).symm, .inl ⟨_, eBL⟩⟩
              | 1, hy => exact ⟨et, (Option.some.inj hy).symm, .inl ⟨_, Er.mono k7' ht7⟩⟩
              | 2, hy => exact ⟨em, (Option.some.inj hy).symm, .inl ⟨_, Er.mono k7' hm7⟩⟩
              | 3, hy => exact ⟨e0, (Option.some.inj hy).symm, .inr eNo⟩
      refine for_it (walk_enum (K := K) (a := n3) (xs := (((es.map V.ref ++ f6.map V.ref) ++ f7.map V.ref) ++ [V.ref e, V.ref et, V.ref em, V.ref e0]))) (fun j σ H => (∃ u11 u12 u13 u14, σ = [some (.ref a), some (.ref p), some (.int (0 + (i : Nat))), some one, some two, some (.ref lp), some (.ref l6), some (.ref l7), some (.ref lf), some (.ref et), some (.ref em), u11, u12, u13, u14]) ∧ ∀ b u, (upd (upd (upd (upd (upd (upd (upd H8 n0 (.lst (es.map V.ref ++ f6.map V.ref))) n1 (.lst ((es.map V.ref ++ f6.map V.ref) ++ f7.map V.ref))) q (.xd [("word", one)])) e (ExV (c 14) q e)) e0 (ExO (.ref (c 17)) e0)) n2 (.lst [V.ref e, V.ref et, V.ref em, V.ref e0])) n3 (.lst (((es.map V.ref ++ f6.map V.ref) ++ f7.map V.ref) ++ [V.ref e, V.ref et, V.ref em, V.ref e0]))) b = some u → H b = some u) ⟨⟨_, _, _, _, rfl⟩, fun b u x => x⟩ (fun j σ H _ h => SqL.of (h.2 _ _ eN)) ?_ ?_
      · rintro j x σ G G' hj ⟨⟨u11, u12, u13, u14, rfl⟩, kG⟩ ⟨tt, x1, y1, rfl, hT, rfl, q1, q2⟩
        rw [len18] at hj
        obtain ⟨b, rfl, hb⟩ := all j y1 hj q2
        obtain rfl := Option.some.inj q1
        have hb1 : ErC _ (c j) b := (hb.mono kG).mono (up2 (o := .tup [V.int (j : Nat), V.ref b]) hT)
        refine ⟨tt, _, rfl, SqT.of upd_same, rfl, ?_⟩
        refine ⟨_, _, rfl, _, _, rfl, rfl, ?_⟩
        refine ⟨_, rfl, b, c j, _, .ref cS, true, rfl, hb1, T.exc j hj, fun u r => r, T.kitS j hj, _, rfl, ?_⟩
        refine iteF ?_
        refine ⟨_, rfl, b, c j, _, .type "ValueError", true, rfl, hb1, T.exc j hj, fun u r => r, T.kitV j hj, _, rfl, ?_⟩
        refine iteF ?_
        refine ⟨_, rfl, b, j, rfl, hj, hb1, fun l0 G2 hl0 sm hl2 => ?_⟩
        refine ⟨l0, _, rfl, SqL.of hl2, fun D hD => ?_⟩
        refine lc_it (walk_enum (K := K) (a := l0) (xs := (List.range 18).map fun m => V.bl (decide (j = m)))) (fun m G3 => (∀ b u, G2 b = some u → G3 b = some u) ∧ G3 D = some (.lst (if j < m then [V.int (j : Nat)] else []))) ⟨up2 hD, ?_⟩ (fun m G3 _ h => SqL.of (h.1 _ _ hl2)) ?_ ?_
        · rw [if_neg (Nat.not_lt_zero _)]
          exact upd_same
        · rintro m x G3 G4 hm ⟨kk, hD3⟩ ⟨t2, x2, y2, rfl, hT2, rfl, r1, r2⟩
          obtain rfl := Option.some.inj r1
          have hm18 : m < 18 := by simpa using hm
          have ey : y2 = V.bl (decide (j = m)) := by
            have r3 : ((List.range 18).map fun m => V.bl (decide (j = m)))[m]? = some y2 := r2
            rw [List.getElem?_map, List.getElem?_range hm18] at r3
            exact (Option.some.inj r3).symm
          subst ey
          have nDt : D ≠ t2 := ne_of_none hD3 hT2
          refine ⟨t2, _, rfl, SqT.of upd_same, rfl, ?_⟩
          refine ⟨_, _, rfl, _, _, rfl, rfl, ?_⟩
          refine ⟨rfl, ?_⟩
          refine ⟨_, rfl, _, rfl, ?_⟩
          refine ite2 (fun hz => ?_) (fun hz => ?_)
          · have ejm : j = m := of_decide_eq_true hz
            subst ejm
            refine ⟨_, rfl, _, by rw [upd_ne nDt]; exact hD3, ?_, fun b u q => ?_, ?_⟩
            · rw [if_neg (Nat.lt_irrefl _)]
              decide
            · rw [upd_ne (ne_of_none q hD), upd_ne (ne_of_none (kk b u q) hT2)]
              exact kk b u q
            · rw [upd_same, if_neg (Nat.lt_irrefl _), if_pos (Nat.lt_succ_self _)]
              rfl
          · have ejm : j ≠ m := fun q => hz (decide_eq_true q)
            refine ⟨fun b u q => up2 hT2 b u (kk b u q), ?_⟩
            rw [upd_ne nDt, hD3]
            by_cases q : j < m
            · rw [if_pos q, if_pos (Nat.lt_succ_of_lt q)]
            · rw [if_neg q, if_neg (by omega)]
        · rintro G3 ⟨kk, hD3⟩
          have l18 : ((List.range 18).map fun m => V.bl (decide (j = m))).length = 18 := by simp
          rw [l18, if_pos hj] at hD3
          refine ⟨_, rfl, by show 1 ≤ sizeLine; decide, fun o hO => ?_⟩
          refine ⟨.list [.int (j : Nat)], .list [.int (j : Nat)], Dp.lst (SqL.of (up2 hO _ _ hD3)) (.cons (.int _) .nil), Dp.lst (SqL.of upd_same) (.cons (.int _) .nil), rfl, rfl, _, rfl, ?_⟩
          have e1 : PyData.eqv (.list [.int ((j : Nat) : Int)]) (.list [.int ((j : Nat) : Int)]) = true := by simp [PyData.eqv, PyData.eqvAll]
          rw [e1]
          refine iteF ?_
          exact ⟨⟨_, _, _, _, rfl⟩, fun b u q => up2 hO b u (kk b u (sm b u (up2 hT b u (kG b u q))))⟩
      · rintro σ G ⟨⟨u11, u12, u13, u14, rfl⟩, kG⟩
        exact ⟨⟨_, _, _, _, _, _, _, _, _, _, _, _, _, rfl⟩, P7.keep fun b u x => kG b u (k8L b u (k8 b u x))⟩
end
end My

/-! What the head tells of own errors: their classes, their __init__, isinstance of them. -/
namespace HeZ
open PySem PySem.Spec PyProof.Rows L2 He
open HandSHeadRun (frNat frNat_eq)
/-- K holds the table of modules and the statics too -/
def kZ (n : Nat) (g : Addr → Option Obj) : PySem.W.Frag := frG g (sysModules :: cStatics :: asD g n)
/-! ### an __init__ that says super() -/
structure IniD where
  cls : Str
  qual : Str
  ns : List Str
  st : Stmt
abbrev FnI : Type := Option (Str × Str × Arguments × FuncBody × Scope × Addr × List Str × Addr)
def fI (K : PySem.W.Frag) (x : Str) : Addr := ma K (ga K x) "__init__"
def fnI (K : PySem.W.Frag) (x : Str) : FnI := match K.lookup (fI K x) with
  | some ⟨_, _, .func fd, _⟩ => some (fd.name, fd.qualname, fd.params, fd.body, fd.scope, fd.globals, fd.closure.map (·.1), fd.builtins)
  | _ => none
def IniD.val (d : IniD) : FnI := some ("__init__", d.qual, defArgs d.st, .stmts (defBody d.st), defScope d.st, mainGlobals, ["__class__"], builtinsNs)
def isNone : Value → Bool
  | .none => true
  | _ => false
def codeF (K : PySem.W.Frag) (file : Str) : Value → Bool
  | .ref a => (match K.lookup a with
    | some ⟨_, _, .fields vs, _⟩ => (match vs[2]? with
      | some (Value.str f _) => file == f
      | _ => false)
    | _ => false)
  | _ => false
def cellB (K : PySem.W.Frag) (C : Addr) : List (Str × Addr) → Bool
  | [(_, a)] => (match K.lookup a with
    | some ⟨_, _, .cell (some (.ref D)), _⟩ => D == C
    | _ => false)
  | _ => false
def iniB (file : Str) (K : PySem.W.Frag) (d : IniD) : Bool := match K.lookup (fI K d.cls) with
  | some ⟨.type t, _, .func fd, _⟩ => t == "function" && (isNone fd.defaults && (PySem.W.codeIn K fd.code d.qual && (codeF K file fd.code && cellB K (ga K d.cls) fd.closure)))
  | _ => false
def clsB (K : PySem.W.Frag) (d : IniD) : Bool :=
  PySem.W.excInitIn K (ga K d.cls) veBase "ValueError.__new__" && ((PySem.W.clsIn K (ga K d.cls)).any (fun cd => PySem.HandSPX.refsVE cd.mro && cd.hasDict) && (eqO (PySem.W.findIn K (.ref (ga K d.cls)) "__setattr__") (some (some (.builtin "object.__setattr__"))) &&
  (eqO (PySem.W.findIn K (.ref (ga K d.cls)) "__init__") (some (some (.ref (fI K d.cls)))) && (eqO (PySem.W.ks_superIn K (ga K d.cls) (ga K d.cls) "__init__") (some (some (.builtin "ValueError.__init__"))) && (decide (PySem.W.subIn K (.ref (ga K d.cls)) (.type "ValueError") = some true) &&
  (decide (PySem.W.mroIn K (ga K d.cls) (.ref (ga K d.cls)) = some true) && (eqO (PySem.W.nsIn K cStatics "thirdparty.any") (some none) && (decide (PySem.W.typeIn K (.ref (fI K d.cls)) = some (.type "function")) && (PySem.W.keepIn K (.ref (ga K d.cls)) &&
  d.ns.all fun f => eqO (PySem.W.findIn K (.ref (ga K d.cls)) f) (some none))))))))))
def excB (K : PySem.W.Frag) (D : Addr) : Bool :=
  eqO (PySem.W.findIn K (.ref D) "__getattribute__") (some (some (.builtin "BaseException.__getattribute__"))) && (eqO (PySem.W.findIn K (.ref D) "__getattr__") (some none) && (decide (PySem.W.subIn K (.ref D) (.type "BaseException") = some true) && (PySem.W.hasDictIn K D &&
  (eqO (PySem.W.findIn K (.ref D) "__class__") (some (some (.builtin "object.__class__"))) && (eqO (PySem.W.specialIn K (.builtin "object.__class__") "__get__") (some (some (.builtin "getset_descriptor.__get__"))) && (decide (PySem.W.takesIn K (.builtin "object.__class__") = some true) && decide (PySem.W.mroIn K D (.type "object") = some true)))))))
theorem excB_ok {K : PySem.W.Frag} {D : Addr} (h : excB K D = true) : ExcC K D := by
  obtain ⟨h1, h⟩ := ba h
  obtain ⟨h2, h⟩ := ba h
  obtain ⟨h3, h⟩ := ba h
  obtain ⟨h4, h⟩ := ba h
  obtain ⟨h5, h⟩ := ba h
  obtain ⟨h6, h⟩ := ba h
  obtain ⟨h7, h8⟩ := ba h
  exact ⟨eqO_ok h1, eqO_ok h2, of_decide_eq_true h3, h4, eqO_ok h5, eqO_ok h6, of_decide_eq_true h7, of_decide_eq_true h8⟩
theorem isNone_ok {v : Value} (h : isNone v = true) : v = .none := by
  cases v with
  | none => rfl
  | _ => cases h
theorem codeF_ok {K : PySem.W.Frag} {file : Str} {v : Value} (h : codeF K file v = true) : ∃ (a : Addr) (c : Value) (d : Option Addr) (sl : Array (Option Value)) (vs : Array Value) (f : Str) (t : Tok), v = .ref a ∧ K.lookup a = some ⟨c, d, .fields vs, sl⟩ ∧ vs[2]? = some (.str f t) ∧ (file == f) = true := by
  cases v with
  | ref a =>
    have h1 : (match K.lookup a with
      | some ⟨_, _, .fields vs, _⟩ => (match vs[2]? with
        | some (Value.str f _) => file == f
        | _ => false)
      | _ => false) = true := h
    cases q : K.lookup a with
    | none =>
      rw [q] at h1
      cases h1
    | some o =>
      obtain ⟨c, d, dt, sl⟩ := o
      rw [q] at h1
      cases dt with
      | fields vs =>
        have h2 : (match vs[2]? with
          | some (Value.str f _) => file == f
          | _ => false) = true := h1
        cases z : vs[2]? with
        | none =>
          rw [z] at h2
          cases h2
        | some u =>
          rw [z] at h2
          cases u with
          | str f t => exact ⟨a, c, d, sl, vs, f, t, rfl, q, z, h2⟩
          | _ => cases h2
      | _ => cases h1
  | _ => cases h
theorem cellB_ok {K : PySem.W.Frag} {C : Addr} {l : List (Str × Addr)} (h : cellB K C l = true) : ∃ (x : Str) (a : Addr) (c : Value) (d : Option Addr) (sl : Array (Option Value)), l = [(x, a)] ∧ K.lookup a = some ⟨c, d, .cell (some (.ref C)), sl⟩ := by
  cases l with
  | nil => cases h
  | cons p r =>
    obtain ⟨x, a⟩ := p
    cases r with
    | cons q r => cases h
    | nil =>
      have h1 : (match K.lookup a with
        | some ⟨_, _, .cell (some (.ref D)), _⟩ => D == C
        | _ => false) = true := h
      cases q : K.lookup a with
      | none =>
        rw [q] at h1
        cases h1
      | some o =>
        obtain ⟨c, d, dt, sl⟩ := o
        rw [q] at h1
        cases dt with
        | cell v =>
          cases v with
          | none => cases h1
          | some u =>
            cases u with
            | ref D =>
              have e : D = C := eq_of_beq h1
              rw [e] at q
              exact ⟨x, a, c, d, sl, rfl, q⟩
            | _ => cases h1
        | _ => cases h1
/-- the facts of a class with such an __init__ -/
theorem xc_of {prog : Program} {K : PySem.W.Frag} {d : IniD} (hc : clsB K d = true) (hi : iniB prog.main.file K d = true) (hv : fnI K d.cls = d.val) (hs : defScope d.st = Exo.xS d.ns) (hd : ∃ ar, ((defArgs d.st).posonlyargs ++ (defArgs d.st).args).head? = some ar ∧ ar.arg = "self") :
    ∃ fd, Exo.Xc prog K d.qual d.ns (defArgs d.st) (defBody d.st) (ga K d.cls) (fI K d.cls) fd ∧ PySem.W.typeIn K (.ref (fI K d.cls)) = some (.type "function") ∧ PySem.W.keepIn K (.ref (ga K d.cls)) = true := by
  obtain ⟨h1, hc⟩ := ba hc
  obtain ⟨h2, hc⟩ := ba hc
  obtain ⟨h3, hc⟩ := ba hc
  obtain ⟨h4, hc⟩ := ba hc
  obtain ⟨h5, hc⟩ := ba hc
  obtain ⟨h6, hc⟩ := ba hc
  obtain ⟨h7, hc⟩ := ba hc
  obtain ⟨h8, hc⟩ := ba hc
  obtain ⟨h9, hc⟩ := ba hc
  obtain ⟨h10, h11⟩ := ba hc
  obtain ⟨cd, c1, c2⟩ := PySem.W.any_some h2
  obtain ⟨c3, c4⟩ := ba c2
  unfold iniB at hi
  unfold fnI at hv
  cases q : K.lookup (fI K d.cls) with
  | none =>
    rw [q] at hi
    cases hi
  | some o =>
    obtain ⟨oc, od, dt, osl⟩ := o
    rw [q] at hi hv
    cases dt with
    | func fd =>
      cases oc with
      | type t =>
        obtain ⟨n1, n2, n3, n4, n5, n6, n7, n8, n9, n10, n11, n12, n13, n14, n15⟩ := fd
        obtain ⟨i1, hi⟩ := ba hi
        obtain ⟨i2, hi⟩ := ba hi
        obtain ⟨i3, hi⟩ := ba hi
        obtain ⟨i4, i5⟩ := ba hi
        have et : t = "function" := eq_of_beq i1
        have ed : n8 = Value.none := isNone_ok i2
        obtain ⟨cda, ccl, cdd, ccs, vs, file, tf, ec, lc, hvs, hfile⟩ := codeF_ok i4
        obtain ⟨x, cc, cl, cld, csl, el, lcc⟩ := cellB_ok i5
        have ec' : n13 = Value.ref cda := ec
        have el' : n7 = [(x, cc)] := el
        subst et ed ec' el'
        have hv2 : (some (n1, n2, n3, n4, n5, n6, [x], n15) : FnI) = (some (("__init__" : Str), d.qual, defArgs d.st, FuncBody.stmts (defBody d.st), defScope d.st, mainGlobals, [("__class__" : Str)], builtinsNs) : FnI) := hv
        simp only [Option.some.injEq, Prod.mk.injEq, List.cons.injEq, and_true] at hv2
        obtain ⟨v1, v2, v3, v4, v5, v6, v7, v8⟩ := hv2
        rw [hs] at v5
        subst v1 v2 v3 v4 v5 v6 v7 v8
        refine ⟨PySem.W.ksFn "__init__" d.qual (defArgs d.st) (defBody d.st) (Exo.xS d.ns) .none n9 n10 n11 n12 (.ref cda) n14 cc, ⟨h1, ⟨cd, c1, c3, c4⟩, eqO_ok h3, eqO_ok h4, eqO_ok h5, of_decide_eq_true h6, of_decide_eq_true h7, eqO_ok h8, fun f hf => eqO_ok (List.all_eq_true.mp h11 f hf), hd, ?_⟩, of_decide_eq_true h9, h10⟩
        exact ⟨od, n9, n10, n11, n12, n14, cc, cda, osl, vs, file, tf, ccl, cl, cdd, cld, ccs, csl, rfl, q, i3, lc, hvs, hfile, lcc⟩
      | _ => cases hi
    | _ => cases oc <;> cases hi
/-! ### the Hook -/
abbrev AlZ : Type := AlD × Bool × List FnI
def obsZ (n : Nat) (fa : List Fa) (fn : List DefD) (ini : List IniD) (ex : PySem.W.Frag → Bool) (g : Addr → Option Obj) : AlZ := (obsD fa fn (kZ n g), ex (kZ n g), ini.map fun d => fnI (kZ n g) d.cls)
def valZ (fn : List DefD) (ini : List IniD) : AlZ := (valD fn, true, ini.map IniD.val)
structure SaysZ (fa : List Fa) (fn : List DefD) (ini : List IniD) (ex : PySem.W.Frag → Bool) (K : PySem.W.Frag) : Prop where
  d : SaysD fa fn K
  x : ex K = true
  i : ∀ (j : Nat) (d : IniD), ini[j]? = some d → fnI K d.cls = d.val
def hookZ (n : Nat) (fa : List Fa) (fn : List DefD) (ini : List IniD) (ex : PySem.W.Frag → Bool) : PySem.W.Hook where
  α := AlZ
  obs := fun s => obsZ n fa fn ini ex s.heap.get?
  val := fun _ => valZ fn ini
  says := fun _ h => ∃ K : PySem.W.Frag, K.In h ∧ SaysZ fa fn ini ex K
  of := fun _ s e => ⟨kZ n s.heap.get?, frG_in, congrArg (fun z : AlZ => z.1) e, congrArg (fun z : AlZ => z.2.1) e, fun j d hj => by
    have e1 : ini.map (fun d => fnI (kZ n s.heap.get?) d.cls) = ini.map IniD.val := congrArg (fun z : AlZ => z.2.2) e
    have e2 : (ini.map fun d => fnI (kZ n s.heap.get?) d.cls)[j]? = (ini.map IniD.val)[j]? := by rw [e1]
    rw [List.getElem?_map, List.getElem?_map, hj] at e2
    exact Option.some.inj e2⟩
  keeps := fun _ _ _ ⟨K, hK, c⟩ k => ⟨K, PySem.W.Frag.In.keeps hK k, c⟩
theorem obsZ_eq {n : Nat} {fa : List Fa} {fn : List DefD} {ini : List IniD} {ex : PySem.W.Frag → Bool} {g : Addr → Option Obj} {s : Shared} (h : ∀ a, g a = s.heap.get? a) : obsZ n fa fn ini ex g = (hookZ n fa fn ini ex).obs s := by
  have e : g = s.heap.get? := funext h
  rw [e] <;> rfl
/-- the addresses of the first n names, worked out -/
def collect (K : PySem.W.Frag) (nm : Nat → Str) : Nat → (List Addr → Bool) → Bool
  | 0, k => k []
  | n + 1, k => collect K nm n fun l => frNat (ga K (nm n)) fun a => k (l ++ [a])
theorem collect_eq (K : PySem.W.Frag) (nm : Nat → Str) : ∀ (n : Nat) (k : List Addr → Bool), collect K nm n k = k ((List.range n).map fun i => ga K (nm i))
  | 0, _ => rfl
  | n + 1, k => by
    show collect K nm n (fun l => frNat (ga K (nm n)) fun a => k (l ++ [a])) = _
    rw [collect_eq K nm n, frNat_eq, List.range_succ, List.map_append]
    rfl
/-- isinstance among them, of S, of ValueError -/
def kitB (K : PySem.W.Frag) (n : Nat) (cs : List Addr) (S : Addr) : Bool :=
  ((List.range n).all fun i => (List.range n).all fun j => decide (PySem.W.kitOne K (.ref (cs.getD i 0)) (.ref (cs.getD j 0)) = some (decide (i = j)))) &&
    (cs.all fun C => decide (PySem.W.kitOne K (.ref C) (.ref S) = some true) && (decide (PySem.W.kitOne K (.ref C) (.type "ValueError") = some true) && excB K C))
def sysB (K : PySem.W.Frag) : Bool := match K.lookup sysModules with
  | some ⟨.type t, _, _, _⟩ => t == "dict"
  | _ => false
theorem sysB_ok {K : PySem.W.Frag} (h : sysB K = true) : SysD K := by
  unfold sysB at h
  cases q : K.lookup sysModules with
  | none =>
    rw [q] at h
    cases h
  | some o =>
    obtain ⟨oc, od, dt, osl⟩ := o
    rw [q] at h
    cases oc with
    | type t =>
      have e : t = "dict" := eq_of_beq h
      exact ⟨_, q, congrArg Value.type e⟩
    | _ => cases h
theorem fun_of {K : PySem.W.Frag} {x qual : Str} {st : Stmt} {f : Addr} {fd : FuncData} (F : FunD K x qual (defArgs st) (defBody st) (defScope st) [] [] f fd) : Fun K x qual st f fd := by
  obtain ⟨⟨oc, od, dV, kV, doc, pm, an, cdv, ct, osl, e, lk, hcd, hD, _⟩, kp⟩ := F
  rcases hD with ⟨_, rfl⟩ | ⟨h, _⟩
  · exact ⟨⟨oc, od, kV, doc, pm, an, cdv, ct, osl, e, lk, hcd⟩, kp⟩
  · exact absurd rfl h
end HeZ

namespace My
open PySem PySem.Spec PyProof.Rows L2
def initSt (i : Nat) : Stmt := match top i with
  | .ClassDef _ _ _ body _ _ _ _ _ _ _ => body.getD 0 (.Pass ⟨0, 0, 0, 0⟩)
  | _ => .Pass ⟨0, 0, 0, 0⟩
def e0 : HeZ.IniD := ⟨"BadShape", "BadShape.__init__", ["part"], initSt 2⟩
def e1 : HeZ.IniD := ⟨"BadFunction", "BadFunction.__init__", ["part"], initSt 3⟩
def e2 : HeZ.IniD := ⟨"BadModule", "BadModule.__init__", ["part"], initSt 4⟩
def e3 : HeZ.IniD := ⟨"BadProgram", "BadProgram.__init__", ["part"], initSt 5⟩
def e4 : HeZ.IniD := ⟨"BadInput", "BadInput.__init__", ["part"], initSt 9⟩
def e5 : HeZ.IniD := ⟨"BadRun", "BadRun.__init__", ["part"], initSt 10⟩
def e6 : HeZ.IniD := ⟨"BadMaps", "BadMaps.__init__", ["part"], initSt 11⟩
def e7 : HeZ.IniD := ⟨"BadFace", "BadFace.__init__", ["part"], initSt 13⟩
def e8 : HeZ.IniD := ⟨"BadPaper", "BadPaper.__init__", ["part"], initSt 14⟩
def e9 : HeZ.IniD := ⟨"BadCode", "BadCode.__init__", ["at"], initSt 6⟩
def e10 : HeZ.IniD := ⟨"BadBytes", "BadBytes.__init__", ["at"], initSt 17⟩
def e11 : HeZ.IniD := ⟨"BadEntry", "BadEntry.__init__", ["value"], initSt 7⟩
def e12 : HeZ.IniD := ⟨"BadState", "BadState.__init__", ["value"], initSt 8⟩
def e13 : HeZ.IniD := ⟨"BadNumber", "BadNumber.__init__", ["value"], initSt 12⟩
def e14 : HeZ.IniD := ⟨"BadLine", "BadLine.__init__", ["word"], initSt 15⟩
def e15 : HeZ.IniD := ⟨"BadText", "BadText.__init__", ["line", "word"], initSt 16⟩
def e16 : HeZ.IniD := ⟨"TooMany", "TooMany.__init__", ["what", "most"], initSt 18⟩
def ini : List HeZ.IniD := [e0, e1, e2, e3, e4, e5, e6, e7, e8, e9, e10, e11, e12, e13, e14, e15, e16]
def dPen : He.DefD := ⟨("_law_pen", none), "_law_pen", "_law_pen", defArgs sPen, defBody sPen, defScope sPen, [], []⟩
def dDraw : He.DefD := ⟨("_law_draw", none), "_law_draw", "_law_draw", defArgs sDraw, defBody sDraw, defScope sDraw, [], []⟩
def dPick : He.DefD := ⟨("_law_pick", none), "_law_pick", "_law_pick", defArgs sPick, defBody sPick, defScope sPick, [], []⟩
def dValue : He.DefD := ⟨("_law_value", none), "_law_value", "_law_value", defArgs sValue, defBody sValue, defScope sValue, [], []⟩
def dKinds : He.DefD := ⟨("_law_kinds", none), "_law_kinds", "_law_kinds", defArgs sKinds, defBody sKinds, defScope sKinds, [], []⟩
def dLaw : He.DefD := ⟨("law", none), "law", "law", defArgs sLaw, defBody sLaw, defScope sLaw, [], []⟩
def fn : List He.DefD := [dPen, dDraw, dPick, dValue, dKinds, dLaw]
def fa : List He.Fa := [.glo "_law_pen", .glo "_law_draw", .glo "_law_pick", .glo "_law_value", .glo "_law_kinds", .glo "law", .glo "BadShape", .glo "BadFunction", .glo "BadModule", .glo "BadProgram", .glo "BadInput", .glo "BadRun", .glo "BadMaps", .glo "BadFace", .glo "BadPaper", .glo "BadCode", .glo "BadBytes", .glo "BadEntry", .glo "BadState", .glo "BadNumber", .glo "BadLine", .glo "BadText", .glo "TooMany", .glo "Nothing", .glo "StandError", .free "int", .free "len", .free "abs", .free "range", .free "tuple", .free "dict", .free "enumerate", .free "isinstance", .free "repr", .free "ValueError", .free "super", .exc "Nothing"]
abbrev R : PySem.W.OpenRow := PySem.W.OpenLaw.row PySem.Challenge.rw_neverstand_k00_errors_keep_any_values
def ex (K : PySem.W.Frag) : Bool := HeZ.sysB K && ((ini.all fun d => HeZ.clsB K d && HeZ.iniB R.prog.main.file K d) && HeZ.collect K nm 18 fun cs => HandSHeadRun.frNat (He.ga K "StandError") fun S => HeZ.kitB K 18 cs S)
section
variable {K : PySem.W.Frag} {w : World} {mg : Str → Option Value}
theorem ex_ini (h : ex K = true) {j : Nat} {d : HeZ.IniD} (e : ini[j]? = some d) : HeZ.clsB K d = true ∧ HeZ.iniB R.prog.main.file K d = true := by
  obtain ⟨_, h⟩ := He.ba h
  obtain ⟨h, _⟩ := He.ba h
  exact He.ba (List.all_eq_true.mp h d (List.mem_of_getElem? e))
theorem ex_kit (h : ex K = true) : HeZ.kitB K 18 ((List.range 18).map fun i => He.ga K (nm i)) (He.ga K "StandError") = true := by
  obtain ⟨_, h⟩ := He.ba h
  obtain ⟨_, h⟩ := He.ba h
  rw [HeZ.collect_eq, HandSHeadRun.frNat_eq] at h
  exact h
theorem cs_at {i : Nat} (h : i < 18) : ((List.range 18).map fun i => He.ga K (nm i)).getD i 0 = He.ga K (nm i) := by
  rw [List.getD_eq_getElem?_getD, List.getElem?_map, List.getElem?_range h]
  rfl
theorem ex_exc (h : ex K = true) {i : Nat} (hi : i < 18) : PySem.W.kitOne K (.ref (He.ga K (nm i))) (.ref (He.ga K "StandError")) = some true ∧ PySem.W.kitOne K (.ref (He.ga K (nm i))) (.type "ValueError") = some true ∧ ExcC K (He.ga K (nm i)) := by
  have z := List.all_eq_true.mp (He.ba (ex_kit h)).2 (He.ga K (nm i)) (List.mem_map.mpr ⟨i, List.mem_range.mpr hi, rfl⟩)
  obtain ⟨z1, z⟩ := He.ba z
  obtain ⟨z2, z3⟩ := He.ba z
  exact ⟨of_decide_eq_true z1, of_decide_eq_true z2, HeZ.excB_ok z3⟩
theorem ex_two (h : ex K = true) {i j : Nat} (hi : i < 18) (hj : j < 18) : PySem.W.kitOne K (.ref (He.ga K (nm i))) (.ref (He.ga K (nm j))) = some (decide (i = j)) := by
  have z := List.all_eq_true.mp (List.all_eq_true.mp (He.ba (ex_kit h)).1 i (List.mem_range.mpr hi)) j (List.mem_range.mpr hj)
  rw [cs_at hi, cs_at hj] at z
  exact of_decide_eq_true z
theorem exAt_of {C : Addr} {f : Str} (X : ExcC K C) (h : PySem.W.findIn K (.ref C) f = some none) : ExAt K C f := ⟨X.hg, X.hk, X.hs, X.hd, h⟩
theorem nms_part : Exo.Nms ["part"] := ⟨by decide +kernel, by decide +kernel, by decide +kernel, fun b hb => by
  simp only [List.mem_cons, List.not_mem_nil, or_false] at hb
  subst hb
  exact ⟨by decide +kernel, by decide +kernel, by decide +kernel⟩⟩
theorem nms_at : Exo.Nms ["at"] := ⟨by decide +kernel, by decide +kernel, by decide +kernel, fun b hb => by
  simp only [List.mem_cons, List.not_mem_nil, or_false] at hb
  subst hb
  exact ⟨by decide +kernel, by decide +kernel, by decide +kernel⟩⟩
theorem nms_value : Exo.Nms ["value"] := ⟨by decide +kernel, by decide +kernel, by decide +kernel, fun b hb => by
  simp only [List.mem_cons, List.not_mem_nil, or_false] at hb
  subst hb
  exact ⟨by decide +kernel, by decide +kernel, by decide +kernel⟩⟩
theorem nms_word : Exo.Nms ["word"] := ⟨by decide +kernel, by decide +kernel, by decide +kernel, fun b hb => by
  simp only [List.mem_cons, List.not_mem_nil, or_false] at hb
  subst hb
  exact ⟨by decide +kernel, by decide +kernel, by decide +kernel⟩⟩
theorem nms_line_word : Exo.Nms ["line", "word"] := ⟨by decide +kernel, by decide +kernel, by decide +kernel, fun b hb => by
  simp only [List.mem_cons, List.not_mem_nil, or_false] at hb
  rcases hb with rfl | rfl <;> exact ⟨by decide +kernel, by decide +kernel, by decide +kernel⟩⟩
theorem nms_what_most : Exo.Nms ["what", "most"] := ⟨by decide +kernel, by decide +kernel, by decide +kernel, fun b hb => by
  simp only [List.mem_cons, List.not_mem_nil, or_false] at hb
  rcases hb with rfl | rfl <;> exact ⟨by decide +kernel, by decide +kernel, by decide +kernel⟩⟩
theorem f0 (h : ex K = true) (hv : HeZ.fnI K e0.cls = e0.val) (hg : mg "BadShape" = some (.ref (He.ga K (nm 0)))) (hs : mg "super" = none) : ∃ fI fd, EC R.prog w K mg "BadShape" ["part"] (He.ga K (nm 0)) fI fd ∧ EBind fd ["part"] ["part"] 0 gK ∧ EBind fd ["part"] [] 1 gP := by
  obtain ⟨hc, hi⟩ := ex_ini h (j := 0) (d := e0) rfl
  obtain ⟨fd, T, tI, kC⟩ := HeZ.xc_of (prog := R.prog) hc hi hv rfl ⟨_, rfl, rfl⟩
  have X := (ex_exc h (i := 0) (by decide)).2.2
  have ok : Exo.InitOk R.prog w K mg (He.ga K (nm 0)) (HeZ.fI K e0.cls) fd ["part"] := Exo.initOk1 T nms_part (fun env => ⟨_, rfl⟩) hs (by decide +kernel)
  refine ⟨_, fd, ⟨hg, T.ini, T.iC, tI, kC, ok, fun f hf => exAt_of X (T.noN f hf)⟩, ?_⟩
  refine ⟨⟨fun s x us zs hu hz => ?_, fun _ r => r⟩, ⟨fun s x us zs hu hz => ?_, fun r _ => r⟩⟩
  · match us, zs, hu, hz with
    | [], [z], _, _ => exact T.binds fun _ _ _ _ _ _ _ => rfl
  · match us, zs, hu, hz with
    | [u], [], _, _ => exact T.binds fun _ _ _ _ _ _ _ => rfl
theorem f1 (h : ex K = true) (hv : HeZ.fnI K e1.cls = e1.val) (hg : mg "BadFunction" = some (.ref (He.ga K (nm 1)))) (hs : mg "super" = none) : ∃ fI fd, EC R.prog w K mg "BadFunction" ["part"] (He.ga K (nm 1)) fI fd ∧ EBind fd ["part"] ["part"] 0 gK ∧ EBind fd ["part"] [] 1 gP := by
  obtain ⟨hc, hi⟩ := ex_ini h (j := 1) (d := e1) rfl
  obtain ⟨fd, T, tI, kC⟩ := HeZ.xc_of (prog := R.prog) hc hi hv rfl ⟨_, rfl, rfl⟩
  have X := (ex_exc h (i := 1) (by decide)).2.2
  have ok : Exo.InitOk R.prog w K mg (He.ga K (nm 1)) (HeZ.fI K e1.cls) fd ["part"] := Exo.initOk1 T nms_part (fun env => ⟨_, rfl⟩) hs (by decide +kernel)
  refine ⟨_, fd, ⟨hg, T.ini, T.iC, tI, kC, ok, fun f hf => exAt_of X (T.noN f hf)⟩, ?_⟩
  refine ⟨⟨fun s x us zs hu hz => ?_, fun _ r => r⟩, ⟨fun s x us zs hu hz => ?_, fun r _ => r⟩⟩
  · match us, zs, hu, hz with
    | [], [z], _, _ => exact T.binds fun _ _ _ _ _ _ _ => rfl
  · match us, zs, hu, hz with
    | [u], [], _, _ => exact T.binds fun _ _ _ _ _ _ _ => rfl
theorem f2 (h : ex K = true) (hv : HeZ.fnI K e2.cls = e2.val) (hg : mg "BadModule" = some (.ref (He.ga K (nm 2)))) (hs : mg "super" = none) : ∃ fI fd, EC R.prog w K mg "BadModule" ["part"] (He.ga K (nm 2)) fI fd ∧ EBind fd ["part"] ["part"] 0 gK ∧ EBind fd ["part"] [] 1 gP := by
  obtain ⟨hc, hi⟩ := ex_ini h (j := 2) (d := e2) rfl
  obtain ⟨fd, T, tI, kC⟩ := HeZ.xc_of (prog := R.prog) hc hi hv rfl ⟨_, rfl, rfl⟩
  have X := (ex_exc h (i := 2) (by decide)).2.2
  have ok : Exo.InitOk R.prog w K mg (He.ga K (nm 2)) (HeZ.fI K e2.cls) fd ["part"] := Exo.initOk1 T nms_part (fun env => ⟨_, rfl⟩) hs (by decide +kernel)
  refine ⟨_, fd, ⟨hg, T.ini, T.iC, tI, kC, ok, fun f hf => exAt_of X (T.noN f hf)⟩, ?_⟩
  refine ⟨⟨fun s x us zs hu hz => ?_, fun _ r => r⟩, ⟨fun s x us zs hu hz => ?_, fun r _ => r⟩⟩
  · match us, zs, hu, hz with
    | [], [z], _, _ => exact T.binds fun _ _ _ _ _ _ _ => rfl
  · match us, zs, hu, hz with
    | [u], [], _, _ => exact T.binds fun _ _ _ _ _ _ _ => rfl
theorem f3 (h : ex K = true) (hv : HeZ.fnI K e3.cls = e3.val) (hg : mg "BadProgram" = some (.ref (He.ga K (nm 3)))) (hs : mg "super" = none) : ∃ fI fd, EC R.prog w K mg "BadProgram" ["part"] (He.ga K (nm 3)) fI fd ∧ EBind fd ["part"] ["part"] 0 gK ∧ EBind fd ["part"] [] 1 gP := by
  obtain ⟨hc, hi⟩ := ex_ini h (j := 3) (d := e3) rfl
  obtain ⟨fd, T, tI, kC⟩ := HeZ.xc_of (prog := R.prog) hc hi hv rfl ⟨_, rfl, rfl⟩
  have X := (ex_exc h (i := 3) (by decide)).2.2
  have ok : Exo.InitOk R.prog w K mg (He.ga K (nm 3)) (HeZ.fI K e3.cls) fd ["part"] := Exo.initOk1 T nms_part (fun env => ⟨_, rfl⟩) hs (by decide +kernel)
  refine ⟨_, fd, ⟨hg, T.ini, T.iC, tI, kC, ok, fun f hf => exAt_of X (T.noN f hf)⟩, ?_⟩
  refine ⟨⟨fun s x us zs hu hz => ?_, fun _ r => r⟩, ⟨fun s x us zs hu hz => ?_, fun r _ => r⟩⟩
  · match us, zs, hu, hz with
    | [], [z], _, _ => exact T.binds fun _ _ _ _ _ _ _ => rfl
  · match us, zs, hu, hz with
    | [u], [], _, _ => exact T.binds fun _ _ _ _ _ _ _ => rfl
theorem f4 (h : ex K = true) (hv : HeZ.fnI K e4.cls = e4.val) (hg : mg "BadInput" = some (.ref (He.ga K (nm 4)))) (hs : mg "super" = none) : ∃ fI fd, EC R.prog w K mg "BadInput" ["part"] (He.ga K (nm 4)) fI fd ∧ EBind fd ["part"] ["part"] 0 gK ∧ EBind fd ["part"] [] 1 gP := by
  obtain ⟨hc, hi⟩ := ex_ini h (j := 4) (d := e4) rfl
  obtain ⟨fd, T, tI, kC⟩ := HeZ.xc_of (prog := R.prog) hc hi hv rfl ⟨_, rfl, rfl⟩
  have X := (ex_exc h (i := 4) (by decide)).2.2
  have ok : Exo.InitOk R.prog w K mg (He.ga K (nm 4)) (HeZ.fI K e4.cls) fd ["part"] := Exo.initOk1 T nms_part (fun env => ⟨_, rfl⟩) hs (by decide +kernel)
  refine ⟨_, fd, ⟨hg, T.ini, T.iC, tI, kC, ok, fun f hf => exAt_of X (T.noN f hf)⟩, ?_⟩
  refine ⟨⟨fun s x us zs hu hz => ?_, fun _ r => r⟩, ⟨fun s x us zs hu hz => ?_, fun r _ => r⟩⟩
  · match us, zs, hu, hz with
    | [], [z], _, _ => exact T.binds fun _ _ _ _ _ _ _ => rfl
  · match us, zs, hu, hz with
    | [u], [], _, _ => exact T.binds fun _ _ _ _ _ _ _ => rfl
theorem f5 (h : ex K = true) (hv : HeZ.fnI K e5.cls = e5.val) (hg : mg "BadRun" = some (.ref (He.ga K (nm 5)))) (hs : mg "super" = none) : ∃ fI fd, EC R.prog w K mg "BadRun" ["part"] (He.ga K (nm 5)) fI fd ∧ EBind fd ["part"] ["part"] 0 gK ∧ EBind fd ["part"] [] 1 gP := by
  obtain ⟨hc, hi⟩ := ex_ini h (j := 5) (d := e5) rfl
  obtain ⟨fd, T, tI, kC⟩ := HeZ.xc_of (prog := R.prog) hc hi hv rfl ⟨_, rfl, rfl⟩
  have X := (ex_exc h (i := 5) (by decide)).2.2
  have ok : Exo.InitOk R.prog w K mg (He.ga K (nm 5)) (HeZ.fI K e5.cls) fd ["part"] := Exo.initOk1 T nms_part (fun env => ⟨_, rfl⟩) hs (by decide +kernel)
  refine ⟨_, fd, ⟨hg, T.ini, T.iC, tI, kC, ok, fun f hf => exAt_of X (T.noN f hf)⟩, ?_⟩
  refine ⟨⟨fun s x us zs hu hz => ?_, fun _ r => r⟩, ⟨fun s x us zs hu hz => ?_, fun r _ => r⟩⟩
  · match us, zs, hu, hz with
    | [], [z], _, _ => exact T.binds fun _ _ _ _ _ _ _ => rfl
  · match us, zs, hu, hz with
    | [u], [], _, _ => exact T.binds fun _ _ _ _ _ _ _ => rfl
theorem f6 (h : ex K = true) (hv : HeZ.fnI K e6.cls = e6.val) (hg : mg "BadMaps" = some (.ref (He.ga K (nm 6)))) (hs : mg "super" = none) : ∃ fI fd, EC R.prog w K mg "BadMaps" ["part"] (He.ga K (nm 6)) fI fd ∧ EBind fd ["part"] ["part"] 0 gK ∧ EBind fd ["part"] [] 1 gP := by
  obtain ⟨hc, hi⟩ := ex_ini h (j := 6) (d := e6) rfl
  obtain ⟨fd, T, tI, kC⟩ := HeZ.xc_of (prog := R.prog) hc hi hv rfl ⟨_, rfl, rfl⟩
  have X := (ex_exc h (i := 6) (by decide)).2.2
  have ok : Exo.InitOk R.prog w K mg (He.ga K (nm 6)) (HeZ.fI K e6.cls) fd ["part"] := Exo.initOk1 T nms_part (fun env => ⟨_, rfl⟩) hs (by decide +kernel)
  refine ⟨_, fd, ⟨hg, T.ini, T.iC, tI, kC, ok, fun f hf => exAt_of X (T.noN f hf)⟩, ?_⟩
  refine ⟨⟨fun s x us zs hu hz => ?_, fun _ r => r⟩, ⟨fun s x us zs hu hz => ?_, fun r _ => r⟩⟩
  · match us, zs, hu, hz with
    | [], [z], _, _ => exact T.binds fun _ _ _ _ _ _ _ => rfl
  · match us, zs, hu, hz with
    | [u], [], _, _ => exact T.binds fun _ _ _ _ _ _ _ => rfl
theorem f7 (h : ex K = true) (hv : HeZ.fnI K e7.cls = e7.val) (hg : mg "BadFace" = some (.ref (He.ga K (nm 7)))) (hs : mg "super" = none) : ∃ fI fd, EC R.prog w K mg "BadFace" ["part"] (He.ga K (nm 7)) fI fd ∧ EBind fd ["part"] ["part"] 0 gK ∧ EBind fd ["part"] [] 1 gP := by
  obtain ⟨hc, hi⟩ := ex_ini h (j := 7) (d := e7) rfl
  obtain ⟨fd, T, tI, kC⟩ := HeZ.xc_of (prog := R.prog) hc hi hv rfl ⟨_, rfl, rfl⟩
  have X := (ex_exc h (i := 7) (by decide)).2.2
  have ok : Exo.InitOk R.prog w K mg (He.ga K (nm 7)) (HeZ.fI K e7.cls) fd ["part"] := Exo.initOk1 T nms_part (fun env => ⟨_, rfl⟩) hs (by decide +kernel)
  refine ⟨_, fd, ⟨hg, T.ini, T.iC, tI, kC, ok, fun f hf => exAt_of X (T.noN f hf)⟩, ?_⟩
  refine ⟨⟨fun s x us zs hu hz => ?_, fun _ r => r⟩, ⟨fun s x us zs hu hz => ?_, fun r _ => r⟩⟩
  · match us, zs, hu, hz with
    | [], [z], _, _ => exact T.binds fun _ _ _ _ _ _ _ => rfl
  · match us, zs, hu, hz with
    | [u], [], _, _ => exact T.binds fun _ _ _ _ _ _ _ => rfl
theorem f8 (h : ex K = true) (hv : HeZ.fnI K e8.cls = e8.val) (hg : mg "BadPaper" = some (.ref (He.ga K (nm 8)))) (hs : mg "super" = none) : ∃ fI fd, EC R.prog w K mg "BadPaper" ["part"] (He.ga K (nm 8)) fI fd ∧ EBind fd ["part"] ["part"] 0 gK ∧ EBind fd ["part"] [] 1 gP := by
  obtain ⟨hc, hi⟩ := ex_ini h (j := 8) (d := e8) rfl
  obtain ⟨fd, T, tI, kC⟩ := HeZ.xc_of (prog := R.prog) hc hi hv rfl ⟨_, rfl, rfl⟩
  have X := (ex_exc h (i := 8) (by decide)).2.2
  have ok : Exo.InitOk R.prog w K mg (He.ga K (nm 8)) (HeZ.fI K e8.cls) fd ["part"] := Exo.initOk1 T nms_part (fun env => ⟨_, rfl⟩) hs (by decide +kernel)
  refine ⟨_, fd, ⟨hg, T.ini, T.iC, tI, kC, ok, fun f hf => exAt_of X (T.noN f hf)⟩, ?_⟩
  refine ⟨⟨fun s x us zs hu hz => ?_, fun _ r => r⟩, ⟨fun s x us zs hu hz => ?_, fun r _ => r⟩⟩
  · match us, zs, hu, hz with
    | [], [z], _, _ => exact T.binds fun _ _ _ _ _ _ _ => rfl
  · match us, zs, hu, hz with
    | [u], [], _, _ => exact T.binds fun _ _ _ _ _ _ _ => rfl
theorem f9 (h : ex K = true) (hv : HeZ.fnI K e9.cls = e9.val) (hg : mg "BadCode" = some (.ref (He.ga K (nm 9)))) (hs : mg "super" = none) : ∃ fI fd, EC R.prog w K mg "BadCode" ["at"] (He.ga K (nm 9)) fI fd ∧ EBind fd ["at"] ["at"] 0 gK ∧ EBind fd ["at"] [] 1 gP := by
  obtain ⟨hc, hi⟩ := ex_ini h (j := 9) (d := e9) rfl
  obtain ⟨fd, T, tI, kC⟩ := HeZ.xc_of (prog := R.prog) hc hi hv rfl ⟨_, rfl, rfl⟩
  have X := (ex_exc h (i := 9) (by decide)).2.2
  have ok : Exo.InitOk R.prog w K mg (He.ga K (nm 9)) (HeZ.fI K e9.cls) fd ["at"] := Exo.initOk1 T nms_at (fun env => ⟨_, rfl⟩) hs (by decide +kernel)
  refine ⟨_, fd, ⟨hg, T.ini, T.iC, tI, kC, ok, fun f hf => exAt_of X (T.noN f hf)⟩, ?_⟩
  refine ⟨⟨fun s x us zs hu hz => ?_, fun _ r => r⟩, ⟨fun s x us zs hu hz => ?_, fun r _ => r⟩⟩
  · match us, zs, hu, hz with
    | [], [z], _, _ => exact T.binds fun _ _ _ _ _ _ _ => rfl
  · match us, zs, hu, hz with
    | [u], [], _, _ => exact T.binds fun _ _ _ _ _ _ _ => rfl
theorem f10 (h : ex K = true) (hv : HeZ.fnI K e10.cls = e10.val) (hg : mg "BadBytes" = some (.ref (He.ga K (nm 10)))) (hs : mg "super" = none) : ∃ fI fd, EC R.prog w K mg "BadBytes" ["at"] (He.ga K (nm 10)) fI fd ∧ EBind fd ["at"] ["at"] 0 gK ∧ EBind fd ["at"] [] 1 gP := by
  obtain ⟨hc, hi⟩ := ex_ini h (j := 10) (d := e10) rfl
  obtain ⟨fd, T, tI, kC⟩ := HeZ.xc_of (prog := R.prog) hc hi hv rfl ⟨_, rfl, rfl⟩
  have X := (ex_exc h (i := 10) (by decide)).2.2
  have ok : Exo.InitOk R.prog w K mg (He.ga K (nm 10)) (HeZ.fI K e10.cls) fd ["at"] := Exo.initOk1 T nms_at (fun env => ⟨_, rfl⟩) hs (by decide +kernel)
  refine ⟨_, fd, ⟨hg, T.ini, T.iC, tI, kC, ok, fun f hf => exAt_of X (T.noN f hf)⟩, ?_⟩
  refine ⟨⟨fun s x us zs hu hz => ?_, fun _ r => r⟩, ⟨fun s x us zs hu hz => ?_, fun r _ => r⟩⟩
  · match us, zs, hu, hz with
    | [], [z], _, _ => exact T.binds fun _ _ _ _ _ _ _ => rfl
  · match us, zs, hu, hz with
    | [u], [], _, _ => exact T.binds fun _ _ _ _ _ _ _ => rfl
theorem f11 (h : ex K = true) (hv : HeZ.fnI K e11.cls = e11.val) (hg : mg "BadEntry" = some (.ref (He.ga K (nm 11)))) (hs : mg "super" = none) : ∃ fI fd, EC R.prog w K mg "BadEntry" ["value"] (He.ga K (nm 11)) fI fd ∧ EBind fd ["value"] ["value"] 0 gK ∧ EBind fd ["value"] [] 1 gP := by
  obtain ⟨hc, hi⟩ := ex_ini h (j := 11) (d := e11) rfl
  obtain ⟨fd, T, tI, kC⟩ := HeZ.xc_of (prog := R.prog) hc hi hv rfl ⟨_, rfl, rfl⟩
  have X := (ex_exc h (i := 11) (by decide)).2.2
  have ok : Exo.InitOk R.prog w K mg (He.ga K (nm 11)) (HeZ.fI K e11.cls) fd ["value"] := Exo.initOk1 T nms_value (fun env => ⟨_, rfl⟩) hs (by decide +kernel)
  refine ⟨_, fd, ⟨hg, T.ini, T.iC, tI, kC, ok, fun f hf => exAt_of X (T.noN f hf)⟩, ?_⟩
  refine ⟨⟨fun s x us zs hu hz => ?_, fun _ r => r⟩, ⟨fun s x us zs hu hz => ?_, fun r _ => r⟩⟩
  · match us, zs, hu, hz with
    | [], [z], _, _ => exact T.binds fun _ _ _ _ _ _ _ => rfl
  · match us, zs, hu, hz with
    | [u], [], _, _ => exact T.binds fun _ _ _ _ _ _ _ => rfl
theorem f12 (h : ex K = true) (hv : HeZ.fnI K e12.cls = e12.val) (hg : mg "BadState" = some (.ref (He.ga K (nm 12)))) (hs : mg "super" = none) : ∃ fI fd, EC R.prog w K mg "BadState" ["value"] (He.ga K (nm 12)) fI fd ∧ EBind fd ["value"] ["value"] 0 gK ∧ EBind fd ["value"] [] 1 gP := by
  obtain ⟨hc, hi⟩ := ex_ini h (j := 12) (d := e12) rfl
  obtain ⟨fd, T, tI, kC⟩ := HeZ.xc_of (prog := R.prog) hc hi hv rfl ⟨_, rfl, rfl⟩
  have X := (ex_exc h (i := 12) (by decide)).2.2
  have ok : Exo.InitOk R.prog w K mg (He.ga K (nm 12)) (HeZ.fI K e12.cls) fd ["value"] := Exo.initOk1 T nms_value (fun env => ⟨_, rfl⟩) hs (by decide +kernel)
  refine ⟨_, fd, ⟨hg, T.ini, T.iC, tI, kC, ok, fun f hf => exAt_of X (T.noN f hf)⟩, ?_⟩
  refine ⟨⟨fun s x us zs hu hz => ?_, fun _ r => r⟩, ⟨fun s x us zs hu hz => ?_, fun r _ => r⟩⟩
  · match us, zs, hu, hz with
    | [], [z], _, _ => exact T.binds fun _ _ _ _ _ _ _ => rfl
  · match us, zs, hu, hz with
    | [u], [], _, _ => exact T.binds fun _ _ _ _ _ _ _ => rfl
theorem f13 (h : ex K = true) (hv : HeZ.fnI K e13.cls = e13.val) (hg : mg "BadNumber" = some (.ref (He.ga K (nm 13)))) (hs : mg "super" = none) : ∃ fI fd, EC R.prog w K mg "BadNumber" ["value"] (He.ga K (nm 13)) fI fd ∧ EBind fd ["value"] ["value"] 0 gK ∧ EBind fd ["value"] [] 1 gP := by
  obtain ⟨hc, hi⟩ := ex_ini h (j := 13) (d := e13) rfl
  obtain ⟨fd, T, tI, kC⟩ := HeZ.xc_of (prog := R.prog) hc hi hv rfl ⟨_, rfl, rfl⟩
  have X := (ex_exc h (i := 13) (by decide)).2.2
  have ok : Exo.InitOk R.prog w K mg (He.ga K (nm 13)) (HeZ.fI K e13.cls) fd ["value"] := Exo.initOk1 T nms_value (fun env => ⟨_, rfl⟩) hs (by decide +kernel)
  refine ⟨_, fd, ⟨hg, T.ini, T.iC, tI, kC, ok, fun f hf => exAt_of X (T.noN f hf)⟩, ?_⟩
  refine ⟨⟨fun s x us zs hu hz => ?_, fun _ r => r⟩, ⟨fun s x us zs hu hz => ?_, fun r _ => r⟩⟩
  · match us, zs, hu, hz with
    | [], [z], _, _ => exact T.binds fun _ _ _ _ _ _ _ => rfl
  · match us, zs, hu, hz with
    | [u], [], _, _ => exact T.binds fun _ _ _ _ _ _ _ => rfl
theorem f14 (h : ex K = true) (hv : HeZ.fnI K e14.cls = e14.val) (hg : mg "BadLine" = some (.ref (He.ga K (nm 14)))) (hs : mg "super" = none) : ∃ fI fd, EC R.prog w K mg "BadLine" ["word"] (He.ga K (nm 14)) fI fd ∧ EBind fd ["word"] ["word"] 0 gK ∧ EBind fd ["word"] [] 1 gP := by
  obtain ⟨hc, hi⟩ := ex_ini h (j := 14) (d := e14) rfl
  obtain ⟨fd, T, tI, kC⟩ := HeZ.xc_of (prog := R.prog) hc hi hv rfl ⟨_, rfl, rfl⟩
  have X := (ex_exc h (i := 14) (by decide)).2.2
  have ok : Exo.InitOk R.prog w K mg (He.ga K (nm 14)) (HeZ.fI K e14.cls) fd ["word"] := Exo.initOk1 T nms_word (fun env => ⟨_, rfl⟩) hs (by decide +kernel)
  refine ⟨_, fd, ⟨hg, T.ini, T.iC, tI, kC, ok, fun f hf => exAt_of X (T.noN f hf)⟩, ?_⟩
  refine ⟨⟨fun s x us zs hu hz => ?_, fun _ r => r⟩, ⟨fun s x us zs hu hz => ?_, fun r _ => r⟩⟩
  · match us, zs, hu, hz with
    | [], [z], _, _ => exact T.binds fun _ _ _ _ _ _ _ => rfl
  · match us, zs, hu, hz with
    | [u], [], _, _ => exact T.binds fun _ _ _ _ _ _ _ => rfl
theorem f15 (h : ex K = true) (hv : HeZ.fnI K e15.cls = e15.val) (hg : mg "BadText" = some (.ref (He.ga K (nm 15)))) (hs : mg "super" = none) : ∃ fI fd, EC R.prog w K mg "BadText" ["line", "word"] (He.ga K (nm 15)) fI fd ∧ EBind fd ["line", "word"] ["word"] 1 gA := by
  obtain ⟨hc, hi⟩ := ex_ini h (j := 15) (d := e15) rfl
  obtain ⟨fd, T, tI, kC⟩ := HeZ.xc_of (prog := R.prog) hc hi hv rfl ⟨_, rfl, rfl⟩
  have X := (ex_exc h (i := 15) (by decide)).2.2
  have ok : Exo.InitOk R.prog w K mg (He.ga K (nm 15)) (HeZ.fI K e15.cls) fd ["line", "word"] := Exo.initOk2 T nms_line_word (by decide) (fun env => ⟨_, rfl⟩) hs (by decide +kernel)
  refine ⟨_, fd, ⟨hg, T.ini, T.iC, tI, kC, ok, fun f hf => exAt_of X (T.noN f hf)⟩, ?_⟩
  refine ⟨fun s x us zs hu hz => ?_, fun r1 r2 => r1.append r2⟩
  match us, zs, hu, hz with
  | [u], [z], _, _ => exact T.binds fun _ _ _ _ _ _ _ => rfl
theorem f16 (h : ex K = true) (hv : HeZ.fnI K e16.cls = e16.val) (hg : mg "TooMany" = some (.ref (He.ga K (nm 16)))) (hs : mg "super" = none) : ∃ fI fd, EC R.prog w K mg "TooMany" ["what", "most"] (He.ga K (nm 16)) fI fd ∧ EBind fd ["what", "most"] ["most", "what"] 0 gS := by
  obtain ⟨hc, hi⟩ := ex_ini h (j := 16) (d := e16) rfl
  obtain ⟨fd, T, tI, kC⟩ := HeZ.xc_of (prog := R.prog) hc hi hv rfl ⟨_, rfl, rfl⟩
  have X := (ex_exc h (i := 16) (by decide)).2.2
  have ok : Exo.InitOk R.prog w K mg (He.ga K (nm 16)) (HeZ.fI K e16.cls) fd ["what", "most"] := Exo.initOk2 T nms_what_most (by decide) (fun env => ⟨_, rfl⟩) hs (by decide +kernel)
  refine ⟨_, fd, ⟨hg, T.ini, T.iC, tI, kC, ok, fun f hf => exAt_of X (T.noN f hf)⟩, ?_⟩
  refine ⟨fun s x us zs hu hz => ?_, fun _ r2 => ?_⟩
  · match us, zs, hu, hz with
    | [], [z, y], _, _ => exact T.binds fun _ _ _ _ _ _ _ => rfl
  · cases r2 with
    | nil => exact .nil
    | cons a r => cases r with
      | nil => exact .cons a .nil
      | cons b r => cases r with
        | nil => exact .cons b (.cons a .nil)
        | cons c r => exact .cons a (.cons b (.cons c r))
end
end My

namespace My
open PySem PySem.Spec PyProof.Rows L2
abbrev hk : PySem.W.Hook := HeZ.hookZ 6 fa fn ini ex
def ob (s : PySem.W.SharedT) : HeZ.AlZ := HeZ.obsZ 6 fa fn ini ex (HandSHeadRun.getT s)
theorem ob_eq (s : PySem.W.SharedT) : ob s = hk.obs s.abs := HeZ.obsZ_eq (HandSHeadRun.getT_eq s)
def loose : List PySem.Str := ["StandError", "BadShape", "BadFunction", "BadModule", "BadProgram", "BadCode", "BadEntry", "BadState", "BadInput", "BadRun", "BadMaps", "BadNumber", "BadFace", "BadPaper", "BadLine", "BadText", "BadBytes", "TooMany", "Nothing", "_law_pen", "_law_draw", "_law_pick", "_law_value", "_law_kinds"]
theorem run (w : World) : HandSHeadRun.RunEq R (PySem.W.view R.prog [26]) hk ob 6000 loose w := by
  intro os
  kernel_rfl
theorem fa_nm : ∀ i, i < 18 → fa[6 + i]? = some (.glo (nm i))
  | 0, _ => rfl
  | 1, _ => rfl
  | 2, _ => rfl
  | 3, _ => rfl
  | 4, _ => rfl
  | 5, _ => rfl
  | 6, _ => rfl
  | 7, _ => rfl
  | 8, _ => rfl
  | 9, _ => rfl
  | 10, _ => rfl
  | 11, _ => rfl
  | 12, _ => rfl
  | 13, _ => rfl
  | 14, _ => rfl
  | 15, _ => rfl
  | 16, _ => rfl
  | 17, _ => rfl
  | n + 18, h => absurd h (by omega)
section
variable {K : PySem.W.Frag} {w : World} {mg : Str → Option Value} {h : Heap} {f : Addr}
theorem facts (X : K.In h) (G : h.Ns mainGlobals mg) (c : HeZ.SaysZ fa fn ini ex K) (hfa : mg "law" = some (.ref f)) :
    ∃ fd : FuncData, (∀ (s : Shared) (v : Value), BindsTo s fd ⟨[v], []⟩ [("script", v)]) ∧ ∀ base : Heap, K.In base → base.Ns mainGlobals mg → FnG R.prog w K mg base 7 f fd ["script"] (spLaw K) := by
  have glo : ∀ (i : Nat) (x : Str), fa[i]? = some (.glo x) → mg x = some (.ref (He.ga K x)) := fun i x e => He.glo_ok X G (c.d.fact i e)
  have free : ∀ (i : Nat) (x : Str), fa[i]? = some (.free x) → mg x = none := fun i x e => He.free_ok X G (c.d.fact i e)
  have gn : ∀ i, i < 18 → mg (nm i) = some (.ref (He.ga K (nm i))) := fun i hi => glo (6 + i) _ (fa_nm i hi)
  have hs : mg "super" = none := free 35 _ rfl
  have T : LawT R.prog w K mg (fun i => He.ga K (nm i)) (He.ga K "StandError") := {
    sys := HeZ.sysB_ok (He.ba c.x).1
    one := fun i hi => match i, hi with
      | 0, _ => f0 c.x (c.i 0 _ rfl) (gn 0 (by decide)) hs
      | 1, _ => f1 c.x (c.i 1 _ rfl) (gn 1 (by decide)) hs
      | 2, _ => f2 c.x (c.i 2 _ rfl) (gn 2 (by decide)) hs
      | 3, _ => f3 c.x (c.i 3 _ rfl) (gn 3 (by decide)) hs
      | 4, _ => f4 c.x (c.i 4 _ rfl) (gn 4 (by decide)) hs
      | 5, _ => f5 c.x (c.i 5 _ rfl) (gn 5 (by decide)) hs
      | 6, _ => f6 c.x (c.i 6 _ rfl) (gn 6 (by decide)) hs
      | 7, _ => f7 c.x (c.i 7 _ rfl) (gn 7 (by decide)) hs
      | 8, _ => f8 c.x (c.i 8 _ rfl) (gn 8 (by decide)) hs
      | 9, _ => f9 c.x (c.i 9 _ rfl) (gn 9 (by decide)) hs
      | 10, _ => f10 c.x (c.i 10 _ rfl) (gn 10 (by decide)) hs
      | 11, _ => f11 c.x (c.i 11 _ rfl) (gn 11 (by decide)) hs
      | 12, _ => f12 c.x (c.i 12 _ rfl) (gn 12 (by decide)) hs
      | 13, _ => f13 c.x (c.i 13 _ rfl) (gn 13 (by decide)) hs
      | 14, _ => f14 c.x (c.i 14 _ rfl) (gn 14 (by decide)) hs
      | n + 15, h => absurd h (by omega)
    text := f15 c.x (c.i 15 _ rfl) (gn 15 (by decide)) hs
    many := f16 c.x (c.i 16 _ rfl) (gn 16 (by decide)) hs
    no := ⟨gn 17 (by decide), (He.exc_ok (c.d.fact 36 (f := .exc "Nothing") rfl)).1, (He.exc_ok (c.d.fact 36 (f := .exc "Nothing") rfl)).2.1⟩
    gl := gn
    glS := glo 24 _ rfl
    val := free 34 _ rfl
    exc := fun i hi => (ex_exc c.x hi).2.2
    kit := fun i j hi hj => ex_two c.x hi hj
    kitS := fun i hi => (ex_exc c.x hi).1
    kitV := fun i hi => (ex_exc c.x hi).2.1 }
  have B : Bl2 mg := { int := free 25 _ rfl, len := free 26 _ rfl, abs := free 27 _ rfl, range := free 28 _ rfl, tuple := free 29 _ rfl, dict := free 30 _ rfl, enum := free 31 _ rfl, isin := free 32 _ rfl, repr := free 33 _ rfl }
  obtain ⟨fd0, F0⟩ := c.d.def_ 0 (d := dPen) rfl
  obtain ⟨fd1, F1⟩ := c.d.def_ 1 (d := dDraw) rfl
  obtain ⟨fd2, F2⟩ := c.d.def_ 2 (d := dPick) rfl
  obtain ⟨fd3, F3⟩ := c.d.def_ 3 (d := dValue) rfl
  obtain ⟨fd4, F4⟩ := c.d.def_ 4 (d := dKinds) rfl
  obtain ⟨fd5, F5⟩ := c.d.def_ 5 (d := dLaw) rfl
  have e := hfa.symm.trans (glo 5 "law" rfl)
  cases e
  have b := FunD.bindsA (ps := ["script"]) F5 fun _ _ _ _ _ _ us hl => match us, hl with | [_], _ => rfl
  refine ⟨fd5, fun s v => b s [v] rfl, fun base _ _ => ?_⟩
  have D : DrawF R.prog w K mg base _ fd1 := ⟨HeZ.fun_of F1, glo 1 _ rfl, ok_draw (HeZ.fun_of F1) B.toBl⟩
  have GP : FnOk R.prog w K mg base CX0 2 _ fd2 ["pen", "some"] (spPick K) := ok_pick (HeZ.fun_of F2) D B.toBl
  exact ok_law (HeZ.fun_of F5) T B (HeZ.fun_of F0) (glo 0 _ rfl) (ok_pen (HeZ.fun_of F0) B.toBl) (HeZ.fun_of F3) (glo 3 _ rfl) (ok_val (HeZ.fun_of F3) (glo 3 _ rfl) D (HeZ.fun_of F2) (glo 2 _ rfl) GP B) (HeZ.fun_of F4) (glo 4 _ rfl) (ok_kinds (HeZ.fun_of F4) T B)
end
end My
open PySem PySem.W PySem.Calls PyProof.Rows
theorem PySem.Challenge.cw_neverstand_k00_errors_keep_any_values_holds : PySem.Challenge.rw_neverstand_k00_errors_keep_any_values.Holds := by
  w_on; o_law
  refine HandSHeadRun.head_any (r := OpenLaw.row PySem.Challenge.rw_neverstand_k00_errors_keep_any_values) (q := view (OpenLaw.row PySem.Challenge.rw_neverstand_k00_errors_keep_any_values).prog [26]) (H := My.hk) (ob := My.ob) (M := 6000) (loose := My.loose) (d := HandSHeadRun.topDef (OpenLaw.row PySem.Challenge.rw_neverstand_k00_errors_keep_any_values).prog 26) (kwd := []) My.ob_eq
    (by kernel_rfl) (fun s => by kernel_rfl) My.run (by kernel_rfl) (by kernel_rfl) (by kernel_rfl) (by rfl) (by first | assumption | decide +kernel) (by decide +kernel) ⟨rfl, rfl, rfl, rfl, rfl, by decide +kernel⟩ ?hw ?hc
  case hw => w_witness2
  case hc =>
    refine L2.walkG (l := PySem.Challenge.rw_neverstand_k00_errors_keep_any_values) (n := 63) (k := 7) (x := "script") rfl (by decide) (by kernel_rfl) ⟨rfl, by decide, by decide⟩ ?F
    intro w mg fa h Y G hmg0
    obtain ⟨K, KX, c⟩ := Y
    have hmg : mg ("law" : PySem.Str) = some (.ref fa) := by
      have e : (HandSHeadRun.topDef (OpenLaw.row PySem.Challenge.rw_neverstand_k00_errors_keep_any_values).prog 26).name = ("law" : PySem.Str) := by kernel_rfl
      rw [← e]
      exact hmg0
    obtain ⟨fd, hb, hF⟩ := My.facts (w := w) KX G c hmg
    exact ⟨K, fd, My.spLaw K, KX, hb, fun H a ns hl hS => ⟨a, ns, rfl, hS, hl, fun _ => rfl⟩, hF⟩

