/- Proved: It shows the tree grown of any rows, or why there is none, and that it may be. No conditions. -/
import Derived.Test.YtmdlpmhkpnobeaaGreatDoorBGrowTrees5
import Derived.Test.YtmdlpmhkpnobeaaGreatDoorChecked
import Derived.KernelRfl
import Derived.Test.YtmdlpmhkpnobeaaGreatDoorRows
import Derived.WalkKit
import Derived.ProofKit
import Derived.OpenShut
import Derived.ShutString
import Derived.ChangeOld
import Derived.Below
import Derived.SizedLaws
import Derived.Test.YtmdlpmhkpnobeaaGreatDoorCards
import Derived.Test.YtmdlpmhkpnobeaaGreatDoorTie
import Derived.LaidMore
import Derived.Lay
import Derived.SevenTiedAt
import Derived.Stop.Joined
import Derived.Handed
import Derived.LaidLaws
set_option linter.unusedVariables false
set_option linter.unusedSimpArgs false
open List renaming getD_eq_getElem?_getD → za, take_of_length_le → zb, getElem?_eq_getElem → ze, take_length → zg, length_append → zi, length_take → zm, mem_cons_self → zn, mem_cons_of_mem → zo, length_map → zq, replicate → zr, length_cons → zt, length_replicate → zy, map_nil → zz, range → zD, length_set → zE, drop_of_length_le → zF, take → zI, not_mem_nil → zK
open Int renaming natCast_nonneg → zc, mul_le_mul_of_nonneg_right → zp, ofNat_zero → zx, natAbs → zC
open Bool renaming and_eq_true → zd
open Option renaming map_eq_some_iff → zf, bind_eq_some_iff → zh, bind_some → zw
open Nat renaming le_trans → zj, le_refl → zk, mul_le_mul_right → zu, zero_add → zG, add_mul → zJ
open Rat renaming num → zH
open Go
namespace Go.Pe
abbrev LCand := Nat × RQt × Bool × Rat
def spL (o : Option LCand) : List AV := match o with
 | none => eSp 0 dQ false dQ
 | some r => eSp r.1 r.2.1 r.2.2.1 (rQ r.2.2.2)
theorem spL_form (o : Option LCand) : ∃ z oc om ol, spL o = eSp z oc om ol := by
 cases o with
 | none => exact ⟨_, _, _, _, rfl⟩
 | some r => exact ⟨_, _, _, _, rfl⟩
theorem spL_some (r : LCand) : spL (some r) = eSp r.1 r.2.1 r.2.2.1 (rQ r.2.2.2) := rfl
def ltL (x r : LCand) : Bool := decide (x.2.2.2 < r.2.2.2) || (decide (x.2.2.2 = r.2.2.2) && ahV x.1 (vQ x.2.1) x.2.2.1 r.1 (vQ r.2.1) r.2.2.1)
def tkL (x : LCand) : Option LCand → Option LCand
 | none => some x
 | some r => if ltL x r then some x else some r
def stepL (V : List RQt) (rows : List (List RC)) (l : List Nat) (lst : Int) (o : Option LCand) (f j : Nat) (m : Bool) : Option LCand :=
 if (cellD rows f j).1 || !alV rows l lst f (vQ (cellD rows f j).2) m then o else tkL (f, (cellD rows f j).2, m, splV V rows l f (vQ (cellD rows f j).2) m) o
def OkL (k : Nat) (o : Option LCand) : Prop := ∀ r, o = some r → sq r.2.2.2 ≤ 10000000 ∧ SmQ r.2.1 k
theorem stepL_ok {V : List RQt} {rows : List (List RC)} {l : List Nat} {lst : Int} {o : Option LCand} {f j : Nat} {m : Bool} {k : Nat} (hk : k ≤ 1000) (h1k : 1 ≤ k) (hV : SmL V k) (hl : InX l V.length) (hn : l.length ≤ 900) (hj : SmQ (cellD rows f j).2 k) (ho : OkL k o) : OkL k (stepL V rows l lst o f j m) := by
 have h1 := splV_sq (rows := rows) (f := f) (c := vQ (cellD rows f j).2) (m := m) hk h1k hV hl hn
 intro r hr
 unfold stepL at hr
 split at hr
 ·exact ho r hr
 ·cases o with
  | none => cases hr; exact ⟨zj h1 (by omega), hj⟩
  | some r' =>
   have hr : (if ltL (f, (cellD rows f j).2, m, splV V rows l f (vQ (cellD rows f j).2) m) r' = true then some (f, (cellD rows f j).2, m, splV V rows l f (vQ (cellD rows f j).2) m) else some r') = some r := hr
   split at hr
   ·cases hr; exact ⟨zj h1 (by omega), hj⟩
   ·exact ho r hr
theorem best26_r2 {V : List RQt} {rows : List (List RC)} {l : List Nat} {fe lst : Int} {o : Option LCand} {f k i p : Nat} (hk : k ≤ 1000) (h1k : 1 ≤ k) (hV : SmL V k) (hVl : V.length ≤ 900) (hl : InX l V.length) (hr : rows.length ≤ 1000) (hw : WfD rows f l k) (hn : l.length ≤ 900) (ho : OkL k o) (hp : p < l.length) (hi : i < 2) :
  LP FF [(6, 1), (8, 1), (1, 0), (2, 0), (3, 0), (9, 0), (10, 0), (11, 0), (12, 0)] [(6, 1), (8, 1), (1, 0), (2, 0), (3, 0), (9, 0), (10, 0), (11, 0)] b272_2 [.ownp (eSp 0 dQ false dQ), .ownp (spL o), .l 1 (l.map eX), (AV.i .i64 lst), .tp [(AV.i .i64 fe), .l 1 (rows.map eRw), .l 3 (V.map eQ)] 0, .b o.isSome, (AV.i .i64 ((f : Int))), (AV.i .i64 ((p : Int))), (AV.i .i64 ((i : Int)))] =
  LP FF [(6, 1), (8, 1), (1, 0), (2, 0), (3, 0), (9, 0), (10, 0), (11, 0), (12, 0)] [(6, 1), (8, 1), (1, 0), (2, 0), (3, 0), (9, 0), (10, 0), (11, 0)] b272_2 [.ownp (eSp 0 dQ false dQ), .ownp (spL (stepL V rows l lst o f (l.getD p 0) (decide (i = 0)))), .l 1 (l.map eX), (AV.i .i64 lst), .tp [(AV.i .i64 fe), .l 1 (rows.map eRw), .l 3 (V.map eQ)] 0, .b (stepL V rows l lst o f (l.getD p 0) (decide (i = 0))).isSome, (AV.i .i64 ((f : Int))), (AV.i .i64 ((p : Int))), (AV.i .i64 (((i + 1 : Nat) : Int)))] := by
 obtain ⟨m, hm⟩ : ∃ m : Bool, m = decide (i = 0) := ⟨_, rfl⟩
 rw [← hm]
 obtain ⟨y1, y2, y3⟩ := hw _ (getD_mem' 0 hp)
 obtain ⟨c, hc⟩ : ∃ c : RC, c = cellD rows f (l.getD p 0) := ⟨_, rfl⟩
 rw [← hc] at y3
 have p1 := parted26_c (fe := fe) (f := f) (c := c.2) (ls := dQ) (m := m) (es := V.map eQ) (k := k) (by omega) y3 hr hw (by omega)
 change R FF 282 _ = some (AV.tup [AV.l 1 ((lfL rows l f (vQ c.2) m).map eX), AV.l 1 ((rgL rows l f (vQ c.2) m).map eX)]) at p1
 have a1 := allowed_c (fe := fe) (lst := lst) (f := f) (c := c.2) (ls := dQ) (m := m) (es := V.map eQ) (k := k) (by omega) y3 hr hw (by omega)
 have hA : InX (lfL rows l f (vQ c.2) m) V.length := filt_in hl
 have hB : InX (rgL rows l f (vQ c.2) m) V.length := filt_in hl
 have nA : (lfL rows l f (vQ c.2) m).length ≤ 900 := zj (List.length_filter_le _ _) hn
 have nB : (rgL rows l f (vQ c.2) m).length ≤ 900 := zj (List.length_filter_le _ _) hn
 have zA : sq (lsV (vsL V (lfL rows l f (vQ c.2) m))) ≤ 4000000 := ls_part hk h1k hV hl hn
 have zB : sq (lsV (vsL V (rgL rows l f (vQ c.2) m))) ≤ 4000000 := ls_part hk h1k hV hl hn
 have g1 := loss26_c (f := fe) (rows := rows.map eRw) hk h1k hV (by omega) hA (by omega)
 have g2 := loss26_c (f := fe) (rows := rows.map eRw) hk h1k hV (by omega) hB (by omega)
 have g5 := qadd_cc zA zB (by omega) (by omega)
 have zS := splV_sq (rows := rows) (f := f) (c := vQ c.2) (m := m) hk h1k hV hl hn
 have eS : splV V rows l f (vQ c.2) m = lsV (vsL V (lfL rows l f (vQ c.2) m)) + lsV (vsL V (rgL rows l f (vQ c.2) m)) := rfl
 have hst : stepL V rows l lst o f (l.getD p 0) m = if (cellD rows f (l.getD p 0)).1 || !alV rows l lst f (vQ (cellD rows f (l.getD p 0)).2) m then o else tkL (f, (cellD rows f (l.getD p 0)).2, m, splV V rows l f (vQ (cellD rows f (l.getD p 0)).2) m) o := rfl
 rw [← hc] at hst
 rw [← eS] at g5
 generalize stepL V rows l lst o f (l.getD p 0) m = st at *
 generalize hS : splV V rows l f (vQ c.2) m = S at *
 generalize lsV (vsL V (lfL rows l f (vQ c.2) m)) = lA at *
 generalize lsV (vsL V (rgL rows l f (vQ c.2) m)) = lB at *
 generalize lfL rows l f (vQ c.2) m = A at *
 generalize rgL rows l f (vQ c.2) m = B at *
 generalize alV rows l lst f (vQ c.2) m = al at *
 have w1 : IntKind.i64.wrap 1 = 1 := by decide
 have w2 : IntKind.i64.wrap 2 = 2 := by decide
 have z0 : ((0 : Nat) : Int) = 0 := rfl
 have z1 : ((0 + 1 : Nat) : Int) = 1 := rfl
 have z2 : ((1 : Nat) : Int) = 1 := rfl
 have z3 : ((1 + 1 : Nat) : Int) = 2 := rfl
 have c1 : (p : Int) < (l.length : Int) := by omega
 have c2 : ((l.getD p 0 : Nat) : Int) < (rows.length : Int) := by omega
 have c3 : (f : Int) < ((rows.getD (l.getD p 0) []).length : Int) := by omega
 unfold cellD at hc
 have him : (i = 0 ∧ m = true) ∨ (i = 1 ∧ m = false) := by
  rcases (show i = 0 ∨ i = 1 by omega) with rfl | rfl
  ·exact .inl ⟨rfl, hm⟩
  ·exact .inr ⟨rfl, hm⟩
 clear hm
 obtain ⟨cm, cq, cl, cd⟩ := c
 have hc' := hc.symm
 obtain ⟨z, oc, om, ol, ez⟩ := spL_form o
 cases cm with
 | true =>
  replace hst : st = o := hst
  subst hst
  rw [ez]
  rcases him with ⟨rfl, rfl⟩ | ⟨rfl, rfl⟩
  ·rw [z1, z0]
   simp only [eSp, eQ, rQ, zz] at p1 a1 ⊢
   rw [LP_go FF b272_2.eq_1]
   simp only [RB, RL, un, St.none, Nat.reduceEqDiff, Nat.reduceAdd, Nat.reduceMul, Nat.reduceMod, Nat.reduceLeDiff, Nat.reduceLT, Int.reduceLT, Int.reduceLE, Int.reduceEq, Int.reduceToNat, Int.reduceSub, Int.reduceNeg, Int.reduceAdd, ↓reduceIte, reduceCtorEq, pack, pid, parN, lid, chkK, apartV, Heap.none, w1, w2, c1, c2, c3, hc', eX_rules, eX_row, eRw_rules, eRw_row, eC_rules, eC_row, zc, n64]
  ·rw [z3, z2]
   simp only [eSp, eQ, rQ, zz] at p1 a1 ⊢
   rw [LP_go FF b272_2.eq_1]
   simp only [RB, RL, un, St.none, Nat.reduceEqDiff, Nat.reduceAdd, Nat.reduceMul, Nat.reduceMod, Nat.reduceLeDiff, Nat.reduceLT, Int.reduceLT, Int.reduceLE, Int.reduceEq, Int.reduceToNat, Int.reduceSub, Int.reduceNeg, Int.reduceAdd, ↓reduceIte, reduceCtorEq, pack, pid, parN, lid, chkK, apartV, Heap.none, w1, w2, c1, c2, c3, hc', eX_rules, eX_row, eRw_rules, eRw_row, eC_rules, eC_row, zc, n64]
 | false =>
  cases al with
  | false =>
   replace hst : st = o := hst
   subst hst
   rw [ez]
   rcases him with ⟨rfl, rfl⟩ | ⟨rfl, rfl⟩
   ·rw [z1, z0]
    simp only [eSp, eQ, rQ, zz] at p1 a1 ⊢
    rw [LP_go FF b272_2.eq_1]
    simp only [RB, RL, un, St.none, Nat.reduceEqDiff, Nat.reduceAdd, Nat.reduceMul, Nat.reduceMod, Nat.reduceLeDiff, Nat.reduceLT, Int.reduceLT, Int.reduceLE, Int.reduceEq, Int.reduceToNat, Int.reduceSub, Int.reduceNeg, Int.reduceAdd, ↓reduceIte, reduceCtorEq, pack, pid, parN, lid, chkK, apartV, Heap.none, w1, w2, c1, c2, c3, hc', eX_rules, eX_row, eRw_rules, eRw_row, eC_rules, eC_row, zc, n64, a1]
   ·rw [z3, z2]
    simp only [eSp, eQ, rQ, zz] at p1 a1 ⊢
    rw [LP_go FF b272_2.eq_1]
    simp only [RB, RL, un, St.none, Nat.reduceEqDiff, Nat.reduceAdd, Nat.reduceMul, Nat.reduceMod, Nat.reduceLeDiff, Nat.reduceLT, Int.reduceLT, Int.reduceLE, Int.reduceEq, Int.reduceToNat, Int.reduceSub, Int.reduceNeg, Int.reduceAdd, ↓reduceIte, reduceCtorEq, pack, pid, parN, lid, chkK, apartV, Heap.none, w1, w2, c1, c2, c3, hc', eX_rules, eX_row, eRw_rules, eRw_row, eC_rules, eC_row, zc, n64, a1]
  | true =>
   replace hst : st = tkL (f, (cq, cl, cd), m, S) o := hst
   cases o with
   | none =>
    rw [show ∀ x : LCand, tkL x none = some x from fun _ => rfl] at hst
    subst hst
    rw [spL_some, show spL none = eSp 0 dQ false dQ from rfl]
    rcases him with ⟨rfl, rfl⟩ | ⟨rfl, rfl⟩
    ·rw [z1, z0]
     simp only [eSp, eQ, rQ, zz, Option.isSome] at p1 a1 ⊢
     rw [LP_go FF b272_2.eq_1]
     simp only [RB, RL, un, St.none, Nat.reduceEqDiff, Nat.reduceAdd, Nat.reduceMul, Nat.reduceMod, Nat.reduceLeDiff, Nat.reduceLT, Int.reduceLT, Int.reduceLE, Int.reduceEq, Int.reduceToNat, Int.reduceSub, Int.reduceNeg, Int.reduceAdd, ↓reduceIte, reduceCtorEq, pack, pid, parN, lid, chkK, apartV, Heap.none, w1, w2, c1, c2, c3, hc', eX_rules, eX_row, eRw_rules, eRw_row, eC_rules, eC_row, zc, n64, a1, p1, g1, g2, g5]
    ·rw [z3, z2]
     simp only [eSp, eQ, rQ, zz, Option.isSome] at p1 a1 ⊢
     rw [LP_go FF b272_2.eq_1]
     simp only [RB, RL, un, St.none, Nat.reduceEqDiff, Nat.reduceAdd, Nat.reduceMul, Nat.reduceMod, Nat.reduceLeDiff, Nat.reduceLT, Int.reduceLT, Int.reduceLE, Int.reduceEq, Int.reduceToNat, Int.reduceSub, Int.reduceNeg, Int.reduceAdd, ↓reduceIte, reduceCtorEq, pack, pid, parN, lid, chkK, apartV, Heap.none, w1, w2, c1, c2, c3, hc', eX_rules, eX_row, eRw_rules, eRw_row, eC_rules, eC_row, zc, n64, a1, p1, g1, g2, g5]
   | some r =>
    obtain ⟨rf, rc, rm, rl⟩ := r
    have g6 := vcmp_c (x := rQ S) (y := rQ rl) (k := 8000001) (j := 10000000) (sm_cq zS) (sm_cq (ho _ rfl).1) (by omega) (by omega)
    rw [vQ_rQ, vQ_rQ] at g6
    simp only [rQ] at g6
    have ah := ahead_c (f := f) (f' := rf) (c := (cq, cl, cd)) (c' := rc) (ls := rQ S) (ls' := rQ rl) (m := m) (m' := rm) y3 (ho _ rfl).2 (by omega) (by omega)
    replace hst : st = if (decide (S < rl) || (decide (S = rl) && ahV f (vQ (cq, cl, cd)) m rf (vQ rc) rm)) = true then some (f, (cq, cl, cd), m, S) else some (rf, rc, rm, rl) := hst
    generalize ahV f (vQ (cq, cl, cd)) m rf (vQ rc) rm = av at *
    have q1 := qcmp_lt (x := S) (y := rl)
    have q2 := qcmp_zero (x := S) (y := rl)
    generalize qcmp S rl = q at *
    by_cases h1 : q < 0
    ·rw [decide_eq_true (q1.1 h1), Bool.true_or, if_pos rfl] at hst
     subst hst
     rw [spL_some, spL_some]
     rcases him with ⟨rfl, rfl⟩ | ⟨rfl, rfl⟩
     ·rw [z1, z0]
      simp only [eSp, eQ, rQ, zz, Option.isSome] at p1 a1 ah ⊢
      rw [LP_go FF b272_2.eq_1]
      simp only [RB, RL, un, St.none, Nat.reduceEqDiff, Nat.reduceAdd, Nat.reduceMul, Nat.reduceMod, Nat.reduceLeDiff, Nat.reduceLT, Int.reduceLT, Int.reduceLE, Int.reduceEq, Int.reduceToNat, Int.reduceSub, Int.reduceNeg, Int.reduceAdd, ↓reduceIte, reduceCtorEq, pack, pid, parN, lid, chkK, apartV, Heap.none, w1, w2, c1, c2, c3, hc', eX_rules, eX_row, eRw_rules, eRw_row, eC_rules, eC_row, zc, n64, a1, p1, g1, g2, g5, g6, h1]
     ·rw [z3, z2]
      simp only [eSp, eQ, rQ, zz, Option.isSome] at p1 a1 ah ⊢
      rw [LP_go FF b272_2.eq_1]
      simp only [RB, RL, un, St.none, Nat.reduceEqDiff, Nat.reduceAdd, Nat.reduceMul, Nat.reduceMod, Nat.reduceLeDiff, Nat.reduceLT, Int.reduceLT, Int.reduceLE, Int.reduceEq, Int.reduceToNat, Int.reduceSub, Int.reduceNeg, Int.reduceAdd, ↓reduceIte, reduceCtorEq, pack, pid, parN, lid, chkK, apartV, Heap.none, w1, w2, c1, c2, c3, hc', eX_rules, eX_row, eRw_rules, eRw_row, eC_rules, eC_row, zc, n64, a1, p1, g1, g2, g5, g6, h1]
    ·rw [decide_eq_false (fun h => h1 (q1.2 h)), Bool.false_or] at hst
     by_cases h2 : q = 0
     ·rw [decide_eq_true (q2.1 h2), Bool.true_and] at hst
      cases av with
      | true =>
       rw [if_pos rfl] at hst
       subst hst
       rw [spL_some, spL_some]
       rcases him with ⟨rfl, rfl⟩ | ⟨rfl, rfl⟩
       ·rw [z1, z0]
        simp only [eSp, eQ, rQ, zz, Option.isSome] at p1 a1 ah ⊢
        rw [LP_go FF b272_2.eq_1]
        simp only [RB, RL, un, St.none, Nat.reduceEqDiff, Nat.reduceAdd, Nat.reduceMul, Nat.reduceMod, Nat.reduceLeDiff, Nat.reduceLT, Int.reduceLT, Int.reduceLE, Int.reduceEq, Int.reduceToNat, Int.reduceSub, Int.reduceNeg, Int.reduceAdd, ↓reduceIte, reduceCtorEq, pack, pid, parN, lid, chkK, apartV, Heap.none, w1, w2, c1, c2, c3, hc', eX_rules, eX_row, eRw_rules, eRw_row, eC_rules, eC_row, zc, n64, a1, p1, g1, g2, g5, g6, h1, h2, ah]
       ·rw [z3, z2]
        simp only [eSp, eQ, rQ, zz, Option.isSome] at p1 a1 ah ⊢
        rw [LP_go FF b272_2.eq_1]
        simp only [RB, RL, un, St.none, Nat.reduceEqDiff, Nat.reduceAdd, Nat.reduceMul, Nat.reduceMod, Nat.reduceLeDiff, Nat.reduceLT, Int.reduceLT, Int.reduceLE, Int.reduceEq, Int.reduceToNat, Int.reduceSub, Int.reduceNeg, Int.reduceAdd, ↓reduceIte, reduceCtorEq, pack, pid, parN, lid, chkK, apartV, Heap.none, w1, w2, c1, c2, c3, hc', eX_rules, eX_row, eRw_rules, eRw_row, eC_rules, eC_row, zc, n64, a1, p1, g1, g2, g5, g6, h1, h2, ah]
      | false =>
       rw [if_neg (by decide)] at hst
       subst hst
       rw [spL_some]
       rcases him with ⟨rfl, rfl⟩ | ⟨rfl, rfl⟩
       ·rw [z1, z0]
        simp only [eSp, eQ, rQ, zz, Option.isSome] at p1 a1 ah ⊢
        rw [LP_go FF b272_2.eq_1]
        simp only [RB, RL, un, St.none, Nat.reduceEqDiff, Nat.reduceAdd, Nat.reduceMul, Nat.reduceMod, Nat.reduceLeDiff, Nat.reduceLT, Int.reduceLT, Int.reduceLE, Int.reduceEq, Int.reduceToNat, Int.reduceSub, Int.reduceNeg, Int.reduceAdd, ↓reduceIte, reduceCtorEq, pack, pid, parN, lid, chkK, apartV, Heap.none, w1, w2, c1, c2, c3, hc', eX_rules, eX_row, eRw_rules, eRw_row, eC_rules, eC_row, zc, n64, a1, p1, g1, g2, g5, g6, h1, h2, ah]
       ·rw [z3, z2]
        simp only [eSp, eQ, rQ, zz, Option.isSome] at p1 a1 ah ⊢
        rw [LP_go FF b272_2.eq_1]
        simp only [RB, RL, un, St.none, Nat.reduceEqDiff, Nat.reduceAdd, Nat.reduceMul, Nat.reduceMod, Nat.reduceLeDiff, Nat.reduceLT, Int.reduceLT, Int.reduceLE, Int.reduceEq, Int.reduceToNat, Int.reduceSub, Int.reduceNeg, Int.reduceAdd, ↓reduceIte, reduceCtorEq, pack, pid, parN, lid, chkK, apartV, Heap.none, w1, w2, c1, c2, c3, hc', eX_rules, eX_row, eRw_rules, eRw_row, eC_rules, eC_row, zc, n64, a1, p1, g1, g2, g5, g6, h1, h2, ah]
     ·rw [decide_eq_false (fun h => h2 (q2.2 h)), Bool.false_and, if_neg (by decide)] at hst
      subst hst
      rw [spL_some]
      rcases him with ⟨rfl, rfl⟩ | ⟨rfl, rfl⟩
      ·rw [z1, z0]
       simp only [eSp, eQ, rQ, zz, Option.isSome] at p1 a1 ah ⊢
       rw [LP_go FF b272_2.eq_1]
       simp only [RB, RL, un, St.none, Nat.reduceEqDiff, Nat.reduceAdd, Nat.reduceMul, Nat.reduceMod, Nat.reduceLeDiff, Nat.reduceLT, Int.reduceLT, Int.reduceLE, Int.reduceEq, Int.reduceToNat, Int.reduceSub, Int.reduceNeg, Int.reduceAdd, ↓reduceIte, reduceCtorEq, pack, pid, parN, lid, chkK, apartV, Heap.none, w1, w2, c1, c2, c3, hc', eX_rules, eX_row, eRw_rules, eRw_row, eC_rules, eC_row, zc, n64, a1, p1, g1, g2, g5, g6, h1, h2, ah]
      ·rw [z3, z2]
       simp only [eSp, eQ, rQ, zz, Option.isSome] at p1 a1 ah ⊢
       rw [LP_go FF b272_2.eq_1]
       simp only [RB, RL, un, St.none, Nat.reduceEqDiff, Nat.reduceAdd, Nat.reduceMul, Nat.reduceMod, Nat.reduceLeDiff, Nat.reduceLT, Int.reduceLT, Int.reduceLE, Int.reduceEq, Int.reduceToNat, Int.reduceSub, Int.reduceNeg, Int.reduceAdd, ↓reduceIte, reduceCtorEq, pack, pid, parN, lid, chkK, apartV, Heap.none, w1, w2, c1, c2, c3, hc', eX_rules, eX_row, eRw_rules, eRw_row, eC_rules, eC_row, zc, n64, a1, p1, g1, g2, g5, g6, h1, h2, ah]
def rowL (V : List RQt) (rows : List (List RC)) (l : List Nat) (lst : Int) (f : Nat) (o : Option LCand) (j : Nat) : Option LCand := stepL V rows l lst (stepL V rows l lst o f j true) f j false
def featL (V : List RQt) (rows : List (List RC)) (l : List Nat) (lst : Int) (o : Option LCand) (f : Nat) : Option LCand := l.foldl (rowL V rows l lst f) o
def bestL (V : List RQt) (rows : List (List RC)) (l : List Nat) (lst : Int) (n : Nat) : Option LCand := (zD n).foldl (featL V rows l lst) none
theorem best26_l2 {V : List RQt} {rows : List (List RC)} {l : List Nat} {fe lst : Int} {o : Option LCand} {f k p : Nat} (hk : k ≤ 1000) (h1k : 1 ≤ k) (hV : SmL V k) (hVl : V.length ≤ 900) (hl : InX l V.length) (hr : rows.length ≤ 1000) (hw : WfD rows f l k) (hn : l.length ≤ 900) (ho : OkL k o) (hp : p < l.length) :
  LP FF [(6, 1), (8, 1), (1, 0), (2, 0), (3, 0), (9, 0), (10, 0), (11, 0), (12, 0)] [(6, 1), (8, 1), (1, 0), (2, 0), (3, 0), (9, 0), (10, 0), (11, 0)] b272_2 [.ownp (eSp 0 dQ false dQ), .ownp (spL o), .l 1 (l.map eX), (AV.i .i64 lst), .tp [(AV.i .i64 fe), .l 1 (rows.map eRw), .l 3 (V.map eQ)] 0, .b o.isSome, (AV.i .i64 ((f : Int))), (AV.i .i64 ((p : Int))), (AV.i .i64 0)] =
  some (.exit 4, [.ownp (eSp 0 dQ false dQ), .ownp (spL (rowL V rows l lst f o (l.getD p 0))), .l 1 (l.map eX), (AV.i .i64 lst), .tp [(AV.i .i64 fe), .l 1 (rows.map eRw), .l 3 (V.map eQ)] 0, .b (rowL V rows l lst f o (l.getD p 0)).isSome, (AV.i .i64 ((f : Int))), (AV.i .i64 ((p : Int)))]) := by
 have y3 := (hw _ (getD_mem' 0 hp)).2.2
 have h1 := best26_r2 (fe := fe) (lst := lst) (o := o) (f := f) (i := 0) hk h1k hV hVl hl hr hw hn ho hp (by omega)
 have h2 := best26_r2 (fe := fe) (lst := lst) (o := stepL V rows l lst o f (l.getD p 0) true) (f := f) (i := 1) hk h1k hV hVl hl hr hw hn (stepL_ok hk h1k hV hl hn y3 ho) hp (by omega)
 have e : stepL V rows l lst (stepL V rows l lst o f (l.getD p 0) true) f (l.getD p 0) false = rowL V rows l lst f o (l.getD p 0) := rfl
 rw [show (decide (0 = 0)) = true from rfl, zx] at h1
 rw [show (decide (1 = 0)) = false from rfl, e] at h2
 rw [h1, h2]
 generalize rowL V rows l lst f o (l.getD p 0) = o' at *
 obtain ⟨z, oc, om, ol, ez⟩ := spL_form o'
 rw [ez, show ((1 + 1 : Nat) : Int) = 2 from rfl]
 simp only [eSp, eQ, rQ, zz]
 rw [LP_go FF b272_2.eq_1]
 simp only [RB, RL, un, St.none, Nat.reduceEqDiff, Nat.reduceAdd, Nat.reduceMul, Nat.reduceMod, Nat.reduceLeDiff, Nat.reduceLT, Int.reduceLT, Int.reduceLE, Int.reduceEq, Int.reduceToNat, Int.reduceSub, Int.reduceNeg, Int.reduceAdd, ↓reduceIte, reduceCtorEq, pack, pid, parN, lid, chkK, apartV, Heap.none, eX_rules, eX_row]
theorem rowL_ok {V : List RQt} {rows : List (List RC)} {l : List Nat} {lst : Int} {o : Option LCand} {f j : Nat} {k : Nat} (hk : k ≤ 1000) (h1k : 1 ≤ k) (hV : SmL V k) (hl : InX l V.length) (hn : l.length ≤ 900) (hj : SmQ (cellD rows f j).2 k) (ho : OkL k o) : OkL k (rowL V rows l lst f o j) :=
 stepL_ok hk h1k hV hl hn hj (stepL_ok hk h1k hV hl hn hj ho)
theorem foldL_ok {V : List RQt} {rows : List (List RC)} {l : List Nat} {lst : Int} {f k : Nat} (hk : k ≤ 1000) (h1k : 1 ≤ k) (hV : SmL V k) (hl : InX l V.length) (hn : l.length ≤ 900) : ∀ (cs : List Nat) (o : Option LCand), WfD rows f cs k → OkL k o → OkL k (cs.foldl (rowL V rows l lst f) o) := by
 intro cs
 induction cs with
 | nil => intro o _ ho; exact ho
 | cons c cs ih => intro o hw ho; exact ih _ (fun j hj => hw j (zo _ hj)) (rowL_ok hk h1k hV hl hn (hw c (zn ..)).2.2 ho)
theorem drop_foldN {β : Type} {g : β → Nat → β} {l : List Nat} {i : Nat} (o : β) (h : i < l.length) : (l.drop i).foldl g o = (l.drop (i + 1)).foldl g (g o (l.getD i 0)) := by
 rw [List.drop_eq_getElem_cons h, List.foldl_cons, za, ze h]; rfl
theorem best26_l1 {V : List RQt} {rows : List (List RC)} {l : List Nat} {fe lst : Int} {f k : Nat} (hk : k ≤ 1000) (h1k : 1 ≤ k) (hV : SmL V k) (hVl : V.length ≤ 900) (hl : InX l V.length) (hr : rows.length ≤ 1000) (hw : WfD rows f l k) (hn : l.length ≤ 900) : ∀ (d p : Nat) (o : Option LCand), p + d = l.length → OkL k o →
  LP FF [(6, 1), (8, 1), (1, 0), (2, 0), (3, 0), (9, 0), (10, 0), (11, 0)] [(6, 1), (8, 1), (1, 0), (2, 0), (3, 0), (9, 0), (10, 0)] b272_1 [.ownp (eSp 0 dQ false dQ), .ownp (spL o), .l 1 (l.map eX), (AV.i .i64 lst), .tp [(AV.i .i64 fe), .l 1 (rows.map eRw), .l 3 (V.map eQ)] 0, .b o.isSome, (AV.i .i64 ((f : Int))), (AV.i .i64 ((p : Int)))] =
  some (.exit 2, [.ownp (eSp 0 dQ false dQ), .ownp (spL ((l.drop p).foldl (rowL V rows l lst f) o)), .l 1 (l.map eX), (AV.i .i64 lst), .tp [(AV.i .i64 fe), .l 1 (rows.map eRw), .l 3 (V.map eQ)] 0, .b ((l.drop p).foldl (rowL V rows l lst f) o).isSome, (AV.i .i64 ((f : Int)))]) := by
 intro d
 induction d with
 | zero =>
  intro p o hp ho
  rw [zF (by omega)]
  obtain ⟨z, oc, om, ol, ez⟩ := spL_form o
  rw [List.foldl_nil, ez]
  have c1 : ¬ (p : Int) < (l.length : Int) := by omega
  simp only [eSp, zz]
  rw [LP_go FF b272_1.eq_1]
  simp only [RB, RL, un, St.none, Nat.reduceEqDiff, Nat.reduceAdd, Nat.reduceMul, Nat.reduceMod, Nat.reduceLeDiff, Nat.reduceLT, Int.reduceLT, Int.reduceLE, Int.reduceEq, Int.reduceToNat, Int.reduceSub, Int.reduceNeg, Int.reduceAdd, ↓reduceIte, reduceCtorEq, pack, pid, parN, lid, chkK, apartV, Heap.none, c1, eX_rules, eX_row, eQ_rules, eQ_row]
 | succ d ih =>
  intro p o hp ho
  have hlt : p < l.length := by omega
  have y3 := (hw _ (getD_mem' 0 hlt)).2.2
  rw [drop_foldN o hlt]
  have h9 := ih (p + 1) (rowL V rows l lst f o (l.getD p 0)) (by omega) (rowL_ok hk h1k hV hl hn y3 ho)
  have l2 := best26_l2 (fe := fe) (lst := lst) (o := o) (f := f) hk h1k hV hVl hl hr hw hn ho hlt
  generalize (l.drop (p + 1)).foldl (rowL V rows l lst f) (rowL V rows l lst f o (l.getD p 0)) = res at *
  generalize rowL V rows l lst f o (l.getD p 0) = o' at *
  obtain ⟨z, oc, om, ol, ez⟩ := spL_form o
  obtain ⟨z', oc', om', ol', ez'⟩ := spL_form o'
  rw [ez] at l2 ⊢
  rw [ez'] at l2 h9
  have c1 : (p : Int) < (l.length : Int) := by omega
  have e2 : IntKind.i64.wrap ((p : Int) + 1) = ((p + 1 : Nat) : Int) := w64succ (by omega)
  simp only [eSp, eQ, rQ, zz] at l2 h9 ⊢
  rw [LP_go FF b272_1.eq_1]
  simp only [RB, RL, un, St.none, Nat.reduceEqDiff, Nat.reduceAdd, Nat.reduceMul, Nat.reduceMod, Nat.reduceLeDiff, Nat.reduceLT, Int.reduceLT, Int.reduceLE, Int.reduceEq, Int.reduceToNat, Int.reduceSub, Int.reduceNeg, Int.reduceAdd, ↓reduceIte, reduceCtorEq, pack, pid, parN, lid, chkK, apartV, Heap.none, c1, eX_rules, eX_row, eQ_rules, eQ_row, zc, e2, l2]
  exact h9
theorem best26_l0 {V : List RQt} {rows : List (List RC)} {l : List Nat} {lst : Int} {k n : Nat} (hk : k ≤ 1000) (h1k : 1 ≤ k) (hV : SmL V k) (hVl : V.length ≤ 900) (hl : InX l V.length) (hr : rows.length ≤ 1000) (hw : ∀ f, f < n → WfD rows f l k) (hn : l.length ≤ 900) (hn64 : n ≤ 1000) : ∀ (d f : Nat), f + d = n → OkL k ((zD f).foldl (featL V rows l lst) none) →
  LP FF [(6, 1), (8, 1), (1, 0), (2, 0), (3, 0), (9, 0), (10, 0)] [(6, 1), (8, 0), (9, 0)] b272_0 [.ownp (eSp 0 dQ false dQ), .ownp (spL ((zD f).foldl (featL V rows l lst) none)), .l 1 (l.map eX), (AV.i .i64 lst), .tp [(AV.i .i64 ((n : Int))), .l 1 (rows.map eRw), .l 3 (V.map eQ)] 0, .b ((zD f).foldl (featL V rows l lst) none).isSome, (AV.i .i64 ((f : Int)))] =
  some (.exit 0, [.ownp (eSp 0 dQ false dQ), .tp (spL (bestL V rows l lst n)) 0, .b (bestL V rows l lst n).isSome]) := by
 intro d
 induction d with
 | zero =>
  intro f hf ho
  have hf' : f = n := by omega
  subst hf'
  have c1 : ¬ (f : Int) < (f : Int) := by omega
  unfold bestL
  generalize (zD f).foldl (featL V rows l lst) none = o at *
  obtain ⟨z, oc, om, ol, ez⟩ := spL_form o
  rw [ez]
  simp only [eSp, zz]
  rw [LP_go FF b272_0.eq_1]
  simp only [RB, RL, un, St.none, Nat.reduceEqDiff, Nat.reduceAdd, Nat.reduceMul, Nat.reduceMod, Nat.reduceLeDiff, Nat.reduceLT, Int.reduceLT, Int.reduceLE, Int.reduceEq, Int.reduceToNat, Int.reduceSub, Int.reduceNeg, Int.reduceAdd, ↓reduceIte, reduceCtorEq, pack, pid, parN, lid, chkK, apartV, Heap.none, c1, eX_rules, eX_row]
 | succ d ih =>
  intro f hf ho
  have hlt : f < n := by omega
  have hwf := hw f hlt
  have h8 : OkL k (featL V rows l lst ((zD f).foldl (featL V rows l lst) none) f) := foldL_ok hk h1k hV hl hn _ _ hwf ho
  have h9 := ih (f + 1) (by omega) (by rw [range_snoc_fold]; exact h8)
  rw [range_snoc_fold] at h9
  have l1 := best26_l1 (fe := (n : Int)) (lst := lst) (f := f) hk h1k hV hVl hl hr hwf hn l.length 0 _ (by omega) ho
  rw [zx, List.drop_zero] at l1
  change LP FF [(6, 1), (8, 1), (1, 0), (2, 0), (3, 0), (9, 0), (10, 0), (11, 0)] [(6, 1), (8, 1), (1, 0), (2, 0), (3, 0), (9, 0), (10, 0)] b272_1 _ = some (Ex.exit 2, [_, AV.ownp (spL (featL V rows l lst ((zD f).foldl (featL V rows l lst) none) f)), _, _, _, AV.b (featL V rows l lst ((zD f).foldl (featL V rows l lst) none) f).isSome, _]) at l1
  generalize featL V rows l lst ((zD f).foldl (featL V rows l lst) none) f = o' at *
  generalize (zD f).foldl (featL V rows l lst) none = o at *
  generalize bestL V rows l lst n = res at *
  obtain ⟨z, oc, om, ol, ez⟩ := spL_form o
  obtain ⟨z', oc', om', ol', ez'⟩ := spL_form o'
  rw [ez] at l1 ⊢
  rw [ez'] at l1 h9
  have c1 : (f : Int) < (n : Int) := by omega
  have e2 : IntKind.i64.wrap ((f : Int) + 1) = ((f + 1 : Nat) : Int) := w64succ (by omega)
  simp only [eSp, zz] at l1 h9 ⊢
  rw [LP_go FF b272_0.eq_1]
  simp only [RB, RL, un, St.none, Nat.reduceEqDiff, Nat.reduceAdd, Nat.reduceMul, Nat.reduceMod, Nat.reduceLeDiff, Nat.reduceLT, Int.reduceLT, Int.reduceLE, Int.reduceEq, Int.reduceToNat, Int.reduceSub, Int.reduceNeg, Int.reduceAdd, ↓reduceIte, reduceCtorEq, pack, pid, parN, lid, chkK, apartV, Heap.none, c1, eX_rules, eX_row, eQ_rules, eQ_row, zc, e2, l1]
  exact h9
theorem best26_c {V : List RQt} {rows : List (List RC)} {l : List Nat} {lst : Int} {k n : Nat} (hk : k ≤ 1000) (h1k : 1 ≤ k) (hV : SmL V k) (hVl : V.length ≤ 900) (hl : InX l V.length) (hr : rows.length ≤ 1000) (hw : ∀ f, f < n → WfD rows f l k) (hn : l.length ≤ 900) (hn64 : n ≤ 1000) :
  R FF 272 [.agg [(AV.i .i64 ((n : Int))), .l 1 (rows.map eRw), .l 3 (V.map eQ)], .l 1 (l.map eX), (AV.i .i64 lst)] = some (.tup [.agg (spL (bestL V rows l lst n)), .b (bestL V rows l lst n).isSome]) := by
 have l0 := best26_l0 (lst := lst) hk h1k hV hVl hl hr hw hn hn64 n 0 (by omega) (fun r h => by cases h)
 rw [List.range_zero, List.foldl_nil, show spL none = eSp 0 dQ false dQ from rfl, zx] at l0
 generalize bestL V rows l lst n = res at *
 obtain ⟨z, oc, om, ol, ez⟩ := spL_form res
 rw [ez] at l0 ⊢
 simp only [eSp, zz, Option.isSome] at l0 ⊢
 rw [R_go FF F272 c272.eq_1]
 simp only [RB, RL, un, St.none, Nat.reduceEqDiff, Nat.reduceAdd, Nat.reduceMul, Nat.reduceMod, Nat.reduceLeDiff, Nat.reduceLT, Int.reduceLT, Int.reduceLE, Int.reduceEq, Int.reduceToNat, Int.reduceSub, Int.reduceNeg, Int.reduceAdd, ↓reduceIte, reduceCtorEq, pack, pid, parN, lid, chkK, apartV, Heap.none, l0, n64, eX_rules, eX_row]
abbrev Srt (o : List Rat) : Prop := o.Pairwise (· < ·)
theorem posV_split {v : Rat} : ∀ (o : List Rat), Srt o → (∀ x ∈ o.take (posV v o), x < v) ∧ (∀ x ∈ o.drop (posV v o), ¬ x < v) := by
 intro o
 induction o with
 | nil => intro _; exact ⟨fun x h => (zK h).elim, fun x h => (zK h).elim⟩
 | cons y o ih =>
  intro hs
  have hs' := List.pairwise_cons.1 hs
  by_cases h : y < v
  ·rw [show posV v (y :: o) = posV v o + 1 from if_pos h, List.take_succ_cons, List.drop_succ_cons]
   obtain ⟨i1, i2⟩ := ih hs'.2
   exact ⟨fun x hx => by rcases List.mem_cons.1 hx with rfl | hx; exact h; exact i1 x hx, i2⟩
  ·rw [show posV v (y :: o) = 0 from if_neg h]
   refine ⟨fun x hx => (zK hx).elim, fun x hx => ?_⟩
   rcases List.mem_cons.1 hx with rfl | hx
   ·exact h
   ·have := hs'.1 x hx; grind
theorem getD_dropR {o : List Rat} {p : Nat} (h : p < o.length) : o.drop p = o.getD p 0 :: o.drop (p + 1) := by
 rw [List.drop_eq_getElem_cons h, za, ze h]; rfl
theorem insV_srt {o : List Rat} {v : Rat} (hs : Srt o) : Srt (insV o v) := by
 unfold insV
 split
 ·exact hs
 ·rename_i hne
  obtain ⟨h1, h2⟩ := posV_split (v := v) o hs
  have hs2 : Srt (o.take (posV v o) ++ o.drop (posV v o)) := by rw [List.take_append_drop]; exact hs
  obtain ⟨s1, s2, s3⟩ := List.pairwise_append.1 hs2
  refine List.pairwise_append.2 ⟨s1, List.pairwise_cons.2 ⟨fun x hx => ?_, s2⟩, fun x hx y hy => ?_⟩
  ·have hp : posV v o < o.length := by
    rcases Nat.lt_or_ge (posV v o) o.length with h | h
    ·exact h
    ·rw [zF h] at hx; exact (zK hx).elim
   have hd := getD_dropR hp
   have g0 : ¬ o.getD (posV v o) 0 < v := h2 _ (by rw [hd]; exact zn ..)
   have g1 : o.getD (posV v o) 0 ≠ v := fun e => hne ⟨hp, e⟩
   have g2 : v < o.getD (posV v o) 0 := by grind
   rw [hd] at hx s2
   rcases List.mem_cons.1 hx with rfl | hx
   ·exact g2
   ·have := (List.pairwise_cons.1 s2).1 x hx; grind
  ·rcases List.mem_cons.1 hy with rfl | hy
   ·exact h1 x hx
   ·exact s3 x hx y hy
theorem insV_mem {o : List Rat} {v x : Rat} : x ∈ insV o v ↔ x = v ∨ x ∈ o := by
 unfold insV
 split
 ·rename_i h
  constructor
  ·exact .inr
  ·rintro (e | hx)
   ·have h3 := getD_mem' 0 h.1
    rw [h.2] at h3
    rw [e]; exact h3
   ·exact hx
 ·rw [List.mem_append, List.mem_cons]
  conv => rhs; rhs; rw [← List.take_append_drop (posV v o) o, List.mem_append]
  grind
theorem cutF_srt {rows : List (List RC)} {f : Nat} : ∀ (l : List Nat) (o : List Rat), Srt o → Srt (l.foldl (cutF rows f) o) ∧ ∀ x, x ∈ l.foldl (cutF rows f) o ↔ x ∈ o ∨ ∃ j ∈ l, (cellD rows f j).1 = false ∧ vQ (cellD rows f j).2 = x := by
 intro l
 induction l with
 | nil => intro o ho; exact ⟨ho, fun x => ⟨.inl, fun h => h.elim id (fun ⟨j, hj, _⟩ => (zK hj).elim)⟩⟩
 | cons i l ih =>
  intro o ho
  have hs : Srt (cutF rows f o i) := by
   unfold cutF
   split
   ·exact ho
   ·exact insV_srt ho
  obtain ⟨h1, h2⟩ := ih _ hs
  refine ⟨h1, fun x => ?_⟩
  rw [List.foldl_cons, h2]
  have hm : x ∈ cutF rows f o i ↔ x ∈ o ∨ ((cellD rows f i).1 = false ∧ vQ (cellD rows f i).2 = x) := by
   unfold cutF
   split
   ·rename_i h
    exact ⟨.inl, fun k => k.elim id fun k => by rw [h] at k; cases k.1⟩
   ·rename_i h
    rw [insV_mem]
    have h' : (cellD rows f i).1 = false := by simpa using h
    constructor
    ·rintro (rfl | h)
     ·exact .inr ⟨h', rfl⟩
     ·exact .inl h
    ·rintro (h | ⟨_, rfl⟩)
     ·exact .inr h
     ·exact .inl rfl
  rw [hm]
  constructor
  ·rintro ((h | h) | ⟨j, hj, h⟩)
   ·exact .inl h
   ·exact .inr ⟨i, zn .., h⟩
   ·exact .inr ⟨j, zo _ hj, h⟩
  ·rintro (h | ⟨j, hj, h⟩)
   ·exact .inl (.inl h)
   ·rcases List.mem_cons.1 hj with rfl | hj
    ·exact .inl (.inr h)
    ·exact .inr ⟨j, hj, h⟩
theorem drop1_mem {o : List Rat} (hs : Srt o) {x : Rat} : x ∈ o.drop 1 ↔ x ∈ o ∧ ∃ y ∈ o, y < x := by
 cases o with
 | nil => exact ⟨fun h => (zK h).elim, fun h => (zK h.1).elim⟩
 | cons a t =>
  obtain ⟨h1, h2⟩ := List.pairwise_cons.1 hs
  show x ∈ t ↔ _
  constructor
  ·intro h
   exact ⟨zo _ h, a, zn .., h1 x h⟩
  ·rintro ⟨hx, y, hy, hlt⟩
   rcases List.mem_cons.1 hx with rfl | hx
   ·rcases List.mem_cons.1 hy with rfl | hy
    ·grind
    ·have := h1 y hy; grind
   ·exact hx
theorem ctV_srt (rows : List (List RC)) (f : Nat) (l : List Nat) : Srt (ctV rows f l) := List.Pairwise.sublist (List.drop_sublist 1 _) (cutF_srt l [] List.Pairwise.nil).1
theorem ctV_mem {rows : List (List RC)} {f : Nat} {l : List Nat} {x : Rat} : x ∈ ctV rows f l ↔ (∃ j ∈ l, (cellD rows f j).1 = false ∧ vQ (cellD rows f j).2 = x) ∧ ∃ j ∈ l, (cellD rows f j).1 = false ∧ vQ (cellD rows f j).2 < x := by
 obtain ⟨h1, h2⟩ := cutF_srt (rows := rows) (f := f) l [] List.Pairwise.nil
 unfold ctV
 rw [drop1_mem h1, h2]
 constructor
 ·rintro ⟨ha, y, hy, hlt⟩
  refine ⟨ha.elim (fun h => (zK h).elim) id, ?_⟩
  obtain ⟨j, hj, hm, rfl⟩ := ((h2 y).1 hy).elim (fun h => (zK h).elim) id
  exact ⟨j, hj, hm, hlt⟩
 ·rintro ⟨ha, j, hj, hm, hlt⟩
  exact ⟨.inr ha, _, (h2 _).2 (.inr ⟨j, hj, hm, rfl⟩), hlt⟩
def ltC (x r : Cand) : Bool := decide (x.2.2.2 < r.2.2.2) || (decide (x.2.2.2 = r.2.2.2) && ahV x.1 x.2.1 x.2.2.1 r.1 r.2.1 r.2.2.1)
def aheadC (x r : Cand) : Prop := ahV x.1 x.2.1 x.2.2.1 r.1 r.2.1 r.2.2.1 = true
def tkC (o : Option Cand) (x : Cand) : Option Cand := match o with
 | none => some x
 | some r => if ltC x r then some x else some r
theorem ahV_irr (f : Nat) (c : Rat) (m : Bool) : ahV f c m f c m = false := by
 unfold ahV; rw [if_pos rfl]; cases m <;> simp <;> grind
theorem ahV_tr {f f' f2 : Nat} {c c' c2 : Rat} {m m' m2 : Bool} (h1 : ahV f c m f' c' m' = true) (h2 : ahV f' c' m' f2 c2 m2 = true) : ahV f c m f2 c2 m2 = true := by
 unfold ahV at *
 split at h1 <;> split at h2 <;> split <;> simp only [Bool.or_eq_true, decide_eq_true_eq, zd, Bool.not_eq_true'] at * <;> grind
theorem ahV_tot {f f' : Nat} {c c' : Rat} {m m' : Bool} (h1 : ahV f c m f' c' m' = false) (h2 : ahV f' c' m' f c m = false) : f = f' ∧ c = c' ∧ m = m' := by
 unfold ahV at *
 by_cases hf : f = f'
 ·rw [if_pos hf] at h1
  rw [if_pos hf.symm] at h2
  cases m <;> cases m' <;> simp only [Bool.or_eq_false_iff, decide_eq_false_iff_not, Bool.and_eq_false_iff, Bool.not_eq_false'] at * <;> grind
 ·rw [if_neg hf] at h1
  rw [if_neg (fun h => hf h.symm)] at h2
  simp only [decide_eq_false_iff_not] at *
  omega
theorem ltC_iff {x r : Cand} : ltC x r = true ↔ x.2.2.2 < r.2.2.2 ∨ (x.2.2.2 = r.2.2.2 ∧ aheadC x r) := by
 unfold ltC aheadC
 simp only [Bool.or_eq_true, decide_eq_true_eq, zd]
theorem ltC_irr (x : Cand) : ¬ ltC x x = true := by
 rw [ltC_iff]
 rintro (h | ⟨_, h⟩)
 ·grind
 ·unfold aheadC at h; rw [ahV_irr] at h; cases h
theorem ltC_tr {x y z : Cand} (h1 : ltC x y = true) (h2 : ltC y z = true) : ltC x z = true := by
 rw [ltC_iff] at *
 rcases h1 with h1 | ⟨e1, h1⟩ <;> rcases h2 with h2 | ⟨e2, h2⟩
 ·exact .inl (by grind)
 ·exact .inl (by grind)
 ·exact .inl (by grind)
 ·exact .inr ⟨by grind, ahV_tr h1 h2⟩
theorem ltC_tot {x y : Cand} (h1 : ¬ ltC x y = true) (h2 : ¬ ltC y x = true) : x = y := by
 rw [ltC_iff] at *
 have e : x.2.2.2 = y.2.2.2 := by grind
 have a1 : ahV x.1 x.2.1 x.2.2.1 y.1 y.2.1 y.2.2.1 = false := by
  cases h : ahV x.1 x.2.1 x.2.2.1 y.1 y.2.1 y.2.2.1 with
  | false => rfl
  | true => exact (h1 (.inr ⟨e, h⟩)).elim
 have a2 : ahV y.1 y.2.1 y.2.2.1 x.1 x.2.1 x.2.2.1 = false := by
  cases h : ahV y.1 y.2.1 y.2.2.1 x.1 x.2.1 x.2.2.1 with
  | false => rfl
  | true => exact (h2 (.inr ⟨e.symm, h⟩)).elim
 obtain ⟨b1, b2, b3⟩ := ahV_tot a1 a2
 exact Prod.ext b1 (Prod.ext b2 (Prod.ext b3 e))
def IsMin (S : Cand → Prop) (o : Option Cand) : Prop := match o with
 | none => ∀ x, ¬ S x
 | some r => S r ∧ ∀ y, S y → ¬ ltC y r = true
theorem IsMin.unique {S T : Cand → Prop} {o o' : Option Cand} (hST : ∀ x, S x ↔ T x) (h : IsMin S o) (h' : IsMin T o') : o = o' := by
 cases o with
 | none =>
  cases o' with
  | none => rfl
  | some r => exact (h r ((hST r).2 h'.1)).elim
 | some r =>
  cases o' with
  | none => exact (h' r ((hST r).1 h.1)).elim
  | some r' => rw [ltC_tot (h'.2 r ((hST r).1 h.1)) (h.2 r' ((hST r').2 h'.1))]
theorem fold_min : ∀ (K : List Cand) (S : Cand → Prop) (o : Option Cand), IsMin S o → IsMin (fun x => S x ∨ x ∈ K) (K.foldl tkC o) := by
 intro K
 induction K with
 | nil =>
  intro S o h
  have e : (fun x => S x ∨ x ∈ ([] : List Cand)) = S := funext fun x => propext ⟨fun h => h.elim id (fun h => (zK h).elim), .inl⟩
  rw [e]; exact h
 | cons a K ih =>
  intro S o h
  have h1 : IsMin (fun x => S x ∨ x = a) (tkC o a) := by
   cases o with
   | none => exact ⟨.inr rfl, fun y hy => hy.elim (fun k => (h y k).elim) (fun k => by rw [k]; exact ltC_irr a)⟩
   | some r =>
    show IsMin _ (if ltC a r then some a else some r)
    by_cases hl : ltC a r = true
    ·rw [if_pos hl]
     refine ⟨.inr rfl, fun y hy => hy.elim (fun k hya => h.2 y k (ltC_tr hya hl)) (fun k => by rw [k]; exact ltC_irr a)⟩
    ·rw [if_neg hl]
     exact ⟨.inl h.1, fun y hy => hy.elim (h.2 y) (fun k => by rw [k]; exact hl)⟩
  have h2 := ih _ _ h1
  have e : (fun x => (S x ∨ x = a) ∨ x ∈ K) = (fun x => S x ∨ x ∈ a :: K) := funext fun x => propext (by rw [List.mem_cons]; exact or_assoc)
  rw [e] at h2
  exact h2
theorem fold_min0 (K : List Cand) : IsMin (fun x => x ∈ K) (K.foldl tkC none) := by
 have h := fold_min K (fun _ => False) none (fun _ h => h)
 have e : (fun x => False ∨ x ∈ K) = (fun x => x ∈ K) := funext fun x => propext ⟨fun h => h.elim False.elim id, .inr⟩
 rw [e] at h
 exact h
theorem fold_sorted : ∀ (K : List Cand) (o : Option Cand), K.Pairwise aheadC → (∀ r, o = some r → ∀ x ∈ K, aheadC r x) → K.foldl (fun o x => tkP x o) o = K.foldl tkC o := by
 intro K
 induction K with
 | nil => intro o _ _; rfl
 | cons a K ih =>
  intro o hp ho
  obtain ⟨h1, h2⟩ := List.pairwise_cons.1 hp
  have e : tkP a o = tkC o a := by
   cases o with
   | none => rfl
   | some r =>
    show (if a.2.2.2 < r.2.2.2 then some a else some r) = if ltC a r then some a else some r
    have hr := ho r rfl a (zn ..)
    by_cases hl : a.2.2.2 < r.2.2.2
    ·rw [if_pos hl, if_pos (ltC_iff.2 (.inl hl))]
    ·rw [if_neg hl, if_neg (fun h => (ltC_iff.1 h).elim hl fun h => by
      have := ahV_tr h.2 hr; rw [ahV_irr] at this; cases this)]
  rw [List.foldl_cons, List.foldl_cons, e]
  refine ih _ h2 fun r hr x hx => ?_
  have hc : r = a ∨ o = some r := by
   cases o with
   | none => exact .inl (Option.some.inj hr).symm
   | some r' =>
    have hr : (if ltC a r' then some a else some r') = some r := hr
    split at hr
    ·exact .inl (Option.some.inj hr).symm
    ·exact .inr hr
  rcases hc with rfl | hc
  ·exact h1 x hx
  ·exact ho r hc x (zo _ hx)
def opt (b : Bool) (x : Cand) : List Cand := if b then [x] else []
def cand2 (V : List RQt) (rows : List (List RC)) (l : List Nat) (lst : Int) (f : Nat) (c : Rat) : List Cand :=
 opt (!few2 rows l lst f c true) (f, c, true, splV V rows l f c true) ++ opt (!few2 rows l lst f c false) (f, c, false, splV V rows l f c false)
def candL (V : List RQt) (rows : List (List RC)) (l : List Nat) (lst : Int) (f j : Nat) : List Cand :=
 opt (!(cellD rows f j).1 && alV rows l lst f (vQ (cellD rows f j).2) true) (f, vQ (cellD rows f j).2, true, splV V rows l f (vQ (cellD rows f j).2) true) ++
 opt (!(cellD rows f j).1 && alV rows l lst f (vQ (cellD rows f j).2) false) (f, vQ (cellD rows f j).2, false, splV V rows l f (vQ (cellD rows f j).2) false)
def KP (V : List RQt) (rows : List (List RC)) (l : List Nat) (lst : Int) (n : Nat) : List Cand := (zD n).flatMap fun f => (ctV rows f l).flatMap (cand2 V rows l lst f)
def KL (V : List RQt) (rows : List (List RC)) (l : List Nat) (lst : Int) (n : Nat) : List Cand := (zD n).flatMap fun f => l.flatMap (candL V rows l lst f)
theorem mem_opt {b : Bool} {x y : Cand} : y ∈ opt b x ↔ b = true ∧ y = x := by
 unfold opt
 cases b
 ·exact ⟨fun h => (zK h).elim, fun h => by cases h.1⟩
 ·exact ⟨fun h => ⟨rfl, List.mem_singleton.1 h⟩, fun h => List.mem_singleton.2 h.2⟩
theorem bestP_fold (V : List RQt) (rows : List (List RC)) (l : List Nat) (lst : Int) (n : Nat) : bestP V rows l lst n = (KP V rows l lst n).foldl (fun o x => tkP x o) none := by
 unfold bestP KP
 rw [List.foldl_flatMap]
 congr 1
 funext o f
 unfold featP
 rw [List.foldl_flatMap]
 congr 1
 funext o c
 unfold cutP cand2
 rw [List.foldl_append]
 have h : ∀ (o : Option Cand) (m : Bool), (opt (!few2 rows l lst f c m) (f, c, m, splV V rows l f c m)).foldl (fun o x => tkP x o) o = stepP V rows l lst o f c m := by
  intro o m
  unfold stepP opt
  cases few2 rows l lst f c m <;> rfl
 rw [h, h]
def valC (x : LCand) : Cand := (x.1, vQ x.2.1, x.2.2.1, x.2.2.2)
theorem tkL_val (x : LCand) (o : Option LCand) : (tkL x o).map valC = tkC (o.map valC) (valC x) := by
 cases o with
 | none => rfl
 | some r =>
  show Option.map valC (if ltL x r then some x else some r) = if ltC (valC x) (valC r) then some (valC x) else some (valC r)
  have e : ltL x r = ltC (valC x) (valC r) := rfl
  rw [e]
  split <;> rfl
theorem bestL_fold (V : List RQt) (rows : List (List RC)) (l : List Nat) (lst : Int) (n : Nat) : (bestL V rows l lst n).map valC = (KL V rows l lst n).foldl tkC none := by
 unfold bestL KL
 rw [List.foldl_flatMap]
 refine (List.foldl_hom (init := (none : Option LCand)) (Option.map valC) (g₁ := featL V rows l lst) (g₂ := fun acc x => List.foldl tkC acc (List.flatMap (candL V rows l lst x) l)) fun o f => ?_).symm
 unfold featL
 show List.foldl tkC (o.map valC) (List.flatMap (candL V rows l lst f) l) = _
 rw [List.foldl_flatMap]
 refine List.foldl_hom (Option.map valC) (g₁ := rowL V rows l lst f) (g₂ := fun acc x => List.foldl tkC acc (candL V rows l lst f x)) fun o j => ?_
 unfold rowL candL
 show List.foldl tkC (o.map valC) (_ ++ _) = _
 rw [List.foldl_append]
 have h : ∀ (o : Option LCand) (m : Bool), (opt (!(cellD rows f j).1 && alV rows l lst f (vQ (cellD rows f j).2) m) (f, vQ (cellD rows f j).2, m, splV V rows l f (vQ (cellD rows f j).2) m)).foldl tkC (o.map valC) = (stepL V rows l lst o f j m).map valC := by
  intro o m
  unfold stepL opt
  cases (cellD rows f j).1
  ·cases alV rows l lst f (vQ (cellD rows f j).2) m
   ·rfl
   ·exact (tkL_val (f, (cellD rows f j).2, m, splV V rows l f (vQ (cellD rows f j).2) m) o).symm
  ·rfl
 rw [h, h]
theorem cand2_pw (V : List RQt) (rows : List (List RC)) (l : List Nat) (lst : Int) (f : Nat) (c : Rat) : (cand2 V rows l lst f c).Pairwise aheadC := by
 unfold cand2
 refine List.pairwise_append.2 ⟨?_, ?_, fun x hx y hy => ?_⟩
 ·unfold opt; split
  ·exact List.pairwise_singleton _ _
  ·exact List.Pairwise.nil
 ·unfold opt; split
  ·exact List.pairwise_singleton _ _
  ·exact List.Pairwise.nil
 ·rw [(mem_opt.1 hx).2, (mem_opt.1 hy).2]
  unfold aheadC ahV
  simp
theorem mem_cand2 {V : List RQt} {rows : List (List RC)} {l : List Nat} {lst : Int} {f : Nat} {c : Rat} {x : Cand} : x ∈ cand2 V rows l lst f c ↔ ∃ m, few2 rows l lst f c m = false ∧ x = (f, c, m, splV V rows l f c m) := by
 unfold cand2
 rw [List.mem_append, mem_opt, mem_opt]
 simp only [Bool.not_eq_true']
 constructor
 ·rintro (⟨h1, h2⟩ | ⟨h1, h2⟩)
  ·exact ⟨true, h1, h2⟩
  ·exact ⟨false, h1, h2⟩
 ·rintro ⟨m, h1, h2⟩
  cases m
  ·exact .inr ⟨h1, h2⟩
  ·exact .inl ⟨h1, h2⟩
theorem mem_candL {V : List RQt} {rows : List (List RC)} {l : List Nat} {lst : Int} {f j : Nat} {x : Cand} : x ∈ candL V rows l lst f j ↔ (cellD rows f j).1 = false ∧ ∃ m, alV rows l lst f (vQ (cellD rows f j).2) m = true ∧ x = (f, vQ (cellD rows f j).2, m, splV V rows l f (vQ (cellD rows f j).2) m) := by
 unfold candL
 rw [List.mem_append, mem_opt, mem_opt]
 simp only [zd, Bool.not_eq_true']
 constructor
 ·rintro (⟨⟨h0, h1⟩, h2⟩ | ⟨⟨h0, h1⟩, h2⟩)
  ·exact ⟨h0, true, h1, h2⟩
  ·exact ⟨h0, false, h1, h2⟩
 ·rintro ⟨h0, m, h1, h2⟩
  cases m
  ·exact .inr ⟨⟨h0, h1⟩, h2⟩
  ·exact .inl ⟨⟨h0, h1⟩, h2⟩
theorem KP_pw (V : List RQt) (rows : List (List RC)) (l : List Nat) (lst : Int) (n : Nat) : (KP V rows l lst n).Pairwise aheadC := by
 unfold KP
 refine List.pairwise_flatMap.2 ⟨fun f _ => List.pairwise_flatMap.2 ⟨fun c _ => cand2_pw .., ?_⟩, ?_⟩
 ·refine (ctV_srt rows f l).imp fun {c c'} hc x hx y hy => ?_
  obtain ⟨m, _, rfl⟩ := mem_cand2.1 hx
  obtain ⟨m', _, rfl⟩ := mem_cand2.1 hy
  unfold aheadC ahV
  rw [if_pos rfl, decide_eq_true hc, Bool.true_or]
 ·refine List.pairwise_lt_range.imp fun {f f'} hf x hx y hy => ?_
  obtain ⟨c, _, hx⟩ := List.mem_flatMap.1 hx
  obtain ⟨c', _, hy⟩ := List.mem_flatMap.1 hy
  obtain ⟨m, _, rfl⟩ := mem_cand2.1 hx
  obtain ⟨m', _, rfl⟩ := mem_cand2.1 hy
  unfold aheadC ahV
  show (if f = f' then _ else decide (f < f')) = true
  rw [if_neg (by omega), decide_eq_true hf]
theorem alV_iff {rows : List (List RC)} {l : List Nat} {lst : Int} {f : Nat} {c : Rat} {m : Bool} : alV rows l lst f c m = true ↔ c ∈ ctV rows f l ∧ few2 rows l lst f c m = false := by
 unfold alV
 rw [ctV_mem, zd, zd, List.any_eq_true, List.any_eq_true, Bool.not_eq_true']
 unfold isA ltA
 simp only [zd, Bool.not_eq_true', decide_eq_true_eq]
theorem K_mem (V : List RQt) (rows : List (List RC)) (l : List Nat) (lst : Int) (n : Nat) (x : Cand) : x ∈ KL V rows l lst n ↔ x ∈ KP V rows l lst n := by
 unfold KL KP
 rw [List.mem_flatMap, List.mem_flatMap]
 refine exists_congr fun f => and_congr_right fun _ => ?_
 rw [List.mem_flatMap, List.mem_flatMap]
 constructor
 ·rintro ⟨j, hj, hx⟩
  obtain ⟨h0, m, h1, rfl⟩ := mem_candL.1 hx
  obtain ⟨h2, h3⟩ := alV_iff.1 h1
  exact ⟨_, h2, mem_cand2.2 ⟨m, h3, rfl⟩⟩
 ·rintro ⟨c, hc, hx⟩
  obtain ⟨m, h3, rfl⟩ := mem_cand2.1 hx
  obtain ⟨⟨j, hj, h0, rfl⟩, _⟩ := ctV_mem.1 hc
  exact ⟨j, hj, mem_candL.2 ⟨h0, m, alV_iff.2 ⟨hc, h3⟩, rfl⟩⟩
theorem best_same (V : List RQt) (rows : List (List RC)) (l : List Nat) (lst : Int) (n : Nat) : (bestL V rows l lst n).map valC = bestP V rows l lst n := by
 rw [bestL_fold, bestP_fold, fold_sorted _ _ (KP_pw ..) (fun r h => by cases h)]
 exact (fold_min0 _).unique (K_mem V rows l lst n) (fold_min0 _)
theorem fD_len (d : RD) : (fD d).2.1.length ≤ 6 := by
 show ((d.2.1.take 6).map (fw 4)).length ≤ 6
 rw [zq]; exact List.length_take_le _ _
theorem rtV_ok {d : RD} {r : RR} (h : rtV d r = 0) : (0 ≤ d.1 ∧ d.1 ≤ 64 ∧ 0 ≤ r.1 ∧ r.1 ≤ 7 ∧ 1 ≤ r.2) ∧ d.2.1.length = d.2.2.length ∧ d.2.1.length ≠ 0 ∧ ∀ x ∈ d.2.1, (x.length : Int) = d.1 := by
 unfold rtV at h
 split at h
 ·omega
 ·split at h
  ·omega
  ·split at h
   ·omega
   ·split at h
    ·omega
    ·rename_i h1 h2 h3 h4
     refine ⟨by omega, by omega, h3, fun x hx => ?_⟩
     rcases Decidable.em ((x.length : Int) = d.1) with e | e
     ·exact e
     ·exact (h4 (List.any_eq_true.2 ⟨x, hx, by unfold badL; exact decide_eq_true e⟩)).elim
theorem fD_cells {d : RD} (h : OkD d) {f i : Nat} (hi : i < (fD d).2.1.length) (hf : f < ((fD d).2.1.getD i []).length) : SmQ (cellD (fD d).2.1 f i).2 3 := by
 have hr : (fD d).2.1.getD i [] ∈ (fD d).2.1 := getD_mem' [] hi
 obtain ⟨row, hrow, e⟩ := List.mem_map.1 (show (fD d).2.1.getD i [] ∈ (d.2.1.take 6).map (fw 4) from hr)
 have hc : cellD (fD d).2.1 f i ∈ (fD d).2.1.getD i [] := getD_mem' dC hf
 rw [← e] at hc
 obtain ⟨c, hc, e2⟩ := List.mem_map.1 (show cellD (fD d).2.1 f i ∈ (row.take 4).map t3 from hc)
 rw [← e2]
 have := (h.2.1.2 row (List.mem_of_mem_take hrow)).2 c (List.mem_of_mem_take hc)
 exact Sm.take (k := maxL) this 3
theorem fD_wf {d : RD} (h : OkD d) {r : RR} (hr : rtV (fD d) r = 0) : ∀ f, f < (fD d).1.toNat → WfD (fD d).2.1 f (zD (fD d).2.1.length) 3 := by
 intro f hf i hi
 obtain ⟨h1, h2, h3, h4⟩ := rtV_ok hr
 have hi := List.mem_range.1 hi
 have hl := h4 _ (getD_mem' [] hi)
 have hf2 : f < ((fD d).2.1.getD i []).length := by omega
 exact ⟨hi, hf2, fD_cells h hi hf2⟩
theorem bestL_ok {V : List RQt} {rows : List (List RC)} {l : List Nat} {lst : Int} {k n : Nat} (hk : k ≤ 1000) (h1k : 1 ≤ k) (hV : SmL V k) (hl : InX l V.length) (hw : ∀ f, f < n → WfD rows f l k) (hn : l.length ≤ 900) : OkL k (bestL V rows l lst n) := by
 have h : ∀ f, f ≤ n → OkL k ((zD f).foldl (featL V rows l lst) none) := by
  intro f
  induction f with
  | zero => intro _ r h; cases h
  | succ f ih => intro hf; rw [range_snoc_fold]; exact foldL_ok hk h1k hV hl hn _ _ (hw f (by omega)) (ih (by omega))
 exact h n (zk _)
def lfN (V : List RQt) (l : List Nat) : RNd := ⟨true, 0, dQ, 0, 0, false, rQ (mnV (vsL V l)), rQ (((l.length : Nat) : Int) : Rat)⟩
def inN (l : List Nat) (f : Nat) (c : RQt) (m : Bool) (a b : Nat) : RNd := ⟨false, f, c, a, b, m, dQ, rQ (((l.length : Nat) : Int) : Rat)⟩
def treeP (V : List RQt) (rows : List (List RC)) (lst : Int) (n : Nat) : Nat → List Nat → Nat → List RNd
 | 0, l, _ => [lfN V l]
 | d + 1, l, p => match bestP V rows l lst n with
  | none => [lfN V l]
  | some b => if lsV (vsL V l) ≤ b.2.2.2 then [lfN V l] else
   inN l b.1 (rQ b.2.1) b.2.2.1 (p + 1) (p + 1 + (treeP V rows lst n d (lfL rows l b.1 b.2.1 b.2.2.1) (p + 1)).length) ::
    (treeP V rows lst n d (lfL rows l b.1 b.2.1 b.2.2.1) (p + 1) ++ treeP V rows lst n d (rgL rows l b.1 b.2.1 b.2.2.1) (p + 1 + (treeP V rows lst n d (lfL rows l b.1 b.2.1 b.2.2.1) (p + 1)).length))
def treeL (V : List RQt) (rows : List (List RC)) (lst : Int) (n : Nat) : Nat → List Nat → Nat → List RNd
 | 0, l, _ => [lfN V l]
 | d + 1, l, p => match bestL V rows l lst n with
  | none => [lfN V l]
  | some b => if lsV (vsL V l) ≤ b.2.2.2 then [lfN V l] else
   inN l b.1 b.2.1 b.2.2.1 (p + 1) (p + 1 + (treeL V rows lst n d (lfL rows l b.1 (vQ b.2.1) b.2.2.1) (p + 1)).length) ::
    (treeL V rows lst n d (lfL rows l b.1 (vQ b.2.1) b.2.2.1) (p + 1) ++ treeL V rows lst n d (rgL rows l b.1 (vQ b.2.1) b.2.2.1) (p + 1 + (treeL V rows lst n d (lfL rows l b.1 (vQ b.2.1) b.2.2.1) (p + 1)).length))
theorem bestP_mem {V : List RQt} {rows : List (List RC)} {l : List Nat} {lst : Int} {n : Nat} {b : Cand} (h : bestP V rows l lst n = some b) :
  b.1 < n ∧ b.2.1 ∈ ctV rows b.1 l ∧ few2 rows l lst b.1 b.2.1 b.2.2.1 = false ∧ b.2.2.2 = splV V rows l b.1 b.2.1 b.2.2.1 := by
 have h1 := fold_min0 (KP V rows l lst n)
 rw [← fold_sorted _ _ (KP_pw ..) (fun r h => by cases h), ← bestP_fold, h] at h1
 obtain ⟨f, hf, hx⟩ := List.mem_flatMap.1 (show b ∈ (zD n).flatMap fun f => (ctV rows f l).flatMap (cand2 V rows l lst f) from h1.1)
 obtain ⟨c, hc, hx⟩ := List.mem_flatMap.1 hx
 obtain ⟨m, hm, rfl⟩ := mem_cand2.1 hx
 exact ⟨List.mem_range.1 hf, hc, hm, rfl⟩
theorem part_len (p : Nat → Bool) (l : List Nat) : (l.filter p).length + (l.filter fun j => !p j).length = l.length := by
 induction l with
 | nil => rfl
 | cons a l ih =>
  rw [List.filter_cons, List.filter_cons]
  cases p a <;> simp <;> omega
theorem part_ok {rows : List (List RC)} {l : List Nat} {lst : Int} {f : Nat} {c : Rat} {m : Bool} (hlst : 1 ≤ lst) (h : few2 rows l lst f c m = false) : 1 ≤ (lfL rows l f c m).length ∧ 1 ≤ (rgL rows l f c m).length ∧ (lfL rows l f c m).length + (rgL rows l f c m).length = l.length := by
 have h1 := part_len (fun j => goV c m (cellD rows f j)) l
 unfold few2 at h
 rw [Bool.or_eq_false_iff, decide_eq_false_iff_not, decide_eq_false_iff_not] at h
 refine ⟨by omega, by omega, h1⟩
theorem treeP_len {V : List RQt} {rows : List (List RC)} {lst : Int} {n : Nat} (hlst : 1 ≤ lst) : ∀ (d : Nat) (l : List Nat) (p : Nat), 1 ≤ l.length → (treeP V rows lst n d l p).length + 1 ≤ 2 * l.length := by
 intro d
 induction d with
 | zero => intro l p hl; show 1 + 1 ≤ _; omega
 | succ d ih =>
  intro l p hl
  unfold treeP
  split
  ·show 1 + 1 ≤ _; omega
  ·rename_i b hb
   split
   ·show 1 + 1 ≤ _; omega
   ·obtain ⟨h1, h2, h3⟩ := part_ok hlst (bestP_mem hb).2.2.1
    have i1 := ih (lfL rows l b.1 b.2.1 b.2.2.1) (p + 1) h1
    have i2 := ih (rgL rows l b.1 b.2.1 b.2.2.1) (p + 1 + (treeP V rows lst n d (lfL rows l b.1 b.2.1 b.2.2.1) (p + 1)).length) h2
    rw [zt, zi]
    omega
theorem wf_part {rows : List (List RC)} {n k : Nat} {l : List Nat} (p : Nat → Bool) (h : ∀ f, f < n → WfD rows f l k) : ∀ f, f < n → WfD rows f (l.filter p) k := fun f hf i hi => h f hf i (List.mem_filter.1 hi).1
theorem smean_c {X : List Rat} {k : Nat} (hk : k ≤ 1000000) (h : AllQ X k) (hn : X.length ≤ 1000) (h1 : 1 ≤ X.length) :
  R FF 254 [.agg [(AV.i .i64 ((X.length : Int))), .b (ng (sR X).num), (AV.l 1 (List.map u (D (sR X).num.natAbs))), (AV.l 1 (List.map u (D (sR X).den))), .b (ng (pR X).num), (AV.l 1 (List.map u (D (pR X).num.natAbs))), (AV.l 1 (List.map u (D (pR X).den)))]] = some (AV.agg [AV.b (ng (zH (mnV X))), (AV.l 1 (List.map u (D (zC (zH (mnV X)))))), (AV.l 1 (List.map u (D (Rat.den (mnV X)))))]) := by
 have s1 := sR_sq h
 have s3 := len_mul hn (show k + 1 ≤ 1000001 by omega)
 have s6 := ivn_sq (n := X.length) (by omega)
 have f2 := qfracn_c (n := X.length) (by omega)
 have f3 := qmul_cc (s := sR X) (t := ivn X.length) (k := 1000001001) (j := 2) (by omega) (by omega) (by omega) (by omega)
 have e1 : ¬ (X.length : Int) < 1 := by omega
 have e2 : max (X.length : Int) 1 = (X.length : Int) := by omega
 unfold mnV
 generalize pR X = p at *
 generalize sR X = s at *
 generalize s * ivn X.length = y at *
 rw [R_go FF F254 c254.eq_1]
 simp only [RB, RL, un, St.none, Nat.reduceEqDiff, Nat.reduceAdd, Nat.reduceMul, Nat.reduceMod, Nat.reduceLeDiff, Nat.reduceLT, Int.reduceLT, Int.reduceLE, Int.reduceEq, Int.reduceToNat, Int.reduceSub, Int.reduceNeg, Int.reduceAdd, ↓reduceIte, reduceCtorEq, pack, pid, parN, lid, chkK, apartV, Heap.none, f2, f3, n64, e1, e2]
theorem snocNd (out : List RNd) (x : RNd) : (out ++ [x]).take (out.length + 1) = out ++ [x] := zb (by rw [zi]; exact zk _)
theorem node_0 {V : List RQt} {rows : List (List RC)} {l : List Nat} {dep lst : Int} {n : Nat} {out : List RNd} (hV : SmL V 3) (hVl : V.length ≤ 900) (hl : InX l V.length) (hr : rows.length ≤ 1000) (hn : l.length ≤ 900) (h1 : 1 ≤ l.length) (ho : out.length + 2 * l.length ≤ 200) :
  R FF 238 [.ownp [(AV.i .i64 ((n : Int))), .l 1 (rows.map eRw), .l 3 (V.map eQ), (AV.i .i64 dep), (AV.i .i64 lst), .own true 14 (out.map eNd)], .l 1 (l.map eX), (AV.i .i64 0)] = some (.back (AV.i .i64 ((out.length : Int))) [.ownp [(AV.i .i64 ((n : Int))), .l 1 (rows.map eRw), .l 3 (V.map eQ), (AV.i .i64 dep), (AV.i .i64 lst), .own true 14 ((out ++ treeP V rows lst n 0 l out.length).map eNd)]]) := by
 have ha := vsL_all hV (by omega) hl
 have f1 := gof_c (f := (n : Int)) (rows := rows.map eRw) (k := 3) (by omega) (by omega) hV (by omega) hl (by omega)
 have f2 := smean_c (X := vsL V l) (k := 3) (by omega) ha (by rw [vsL_len]; omega) (by rw [vsL_len]; omega)
 rw [vsL_len] at f2
 have f3 := qof_c (n := (l.length : Int)) (by omega) (by omega)
 have e1 : treeP V rows lst n 0 l out.length = [lfN V l] := rfl
 rw [e1]
 have e2 : lfN V l = ⟨true, 0, dQ, 0, 0, false, rQ (mnV (vsL V l)), rQ (((l.length : Nat) : Int) : Rat)⟩ := rfl
 rw [e2]
 have m1 : ∀ x y : Rat, List.map eNd out ++ [[AV.b true, .i .i64 0, .b false, .l 1 [], .l 1 [], .i .i64 0, .i .i64 0, .b false, .b (ng x.num), (AV.l 1 (List.map u (D x.num.natAbs))), (AV.l 1 (List.map u (D x.den))), .b (ng y.num), (AV.l 1 (List.map u (D y.num.natAbs))), (AV.l 1 (List.map u (D y.den)))]] = List.map eNd (out ++ [⟨true, 0, dQ, 0, 0, false, rQ x, rQ y⟩]) := by
  intro x y; rw [List.map_append]; rfl
 generalize sR (vsL V l) = s at *
 generalize pR (vsL V l) = p at *
 generalize mnV (vsL V l) = y at *
 generalize ((l.length : Int) : Rat) = w at *
 have b2 : (out.length + 1) * 208 ≤ 140737488355328 := by omega
 have m5 := snocNd out ⟨true, 0, dQ, 0, 0, false, rQ y, rQ w⟩
 have c1 : ¬ 255 < ((out.length + 1 : Nat) : Int) + 2 := by omega
 rw [R_go FF F238 c238.eq_1]
 simp only [RB, RL, un, St.none, Nat.reduceEqDiff, Nat.reduceAdd, Nat.reduceMul, Nat.reduceMod, Nat.reduceLeDiff, Nat.reduceLT, Int.reduceLT, Int.reduceLE, Int.reduceEq, Int.reduceToNat, Int.reduceSub, Int.reduceNeg, Int.reduceAdd, ↓reduceIte, reduceCtorEq, pack, pid, parN, lid, chkK, apartV, Heap.none, f1, f2, f3, n64, eX_rules, eX_row, eNd_rules, eNd_row, nJ, nK, Row.freeze, m1, m5, b2, c1, zg]
theorem set_here (out : List RNd) (x y : RNd) (A B : List RNd) : (out ++ [x] ++ A ++ B).set out.length y = out ++ y :: (A ++ B) := by
 rw [List.append_assoc, List.append_assoc, List.set_append_right _ _ (zk _), Nat.sub_self]; rfl
theorem node_c {V : List RQt} {rows : List (List RC)} {dep lst : Int} {n : Nat} (hlst : 1 ≤ lst) (hV : SmL V 3) (hVl : V.length ≤ 900) (hr : rows.length ≤ 1000) (hn64 : n ≤ 1000) : ∀ (d : Nat) (l : List Nat) (out : List RNd), d ≤ 1000 → InX l V.length → (∀ f, f < n → WfD rows f l 3) → l.length ≤ 90 → 1 ≤ l.length → out.length + 2 * l.length ≤ 200 →
  R FF 238 [.ownp [(AV.i .i64 ((n : Int))), .l 1 (rows.map eRw), .l 3 (V.map eQ), (AV.i .i64 dep), (AV.i .i64 lst), .own true 14 (out.map eNd)], .l 1 (l.map eX), (AV.i .i64 ((d : Int)))] = some (.back (AV.i .i64 ((out.length : Int))) [.ownp [(AV.i .i64 ((n : Int))), .l 1 (rows.map eRw), .l 3 (V.map eQ), (AV.i .i64 dep), (AV.i .i64 lst), .own true 14 ((out ++ treeP V rows lst n d l out.length).map eNd)]]) := by
 intro d
 induction d with
 | zero => intro l out _ hl hw hn h1 ho; exact node_0 hV hVl hl hr (by omega) h1 ho
 | succ d ih =>
  intro l out hd hl hw hn h1 ho
  have ha := vsL_all hV (by omega) hl
  have f1 := gof_c (f := (n : Int)) (rows := rows.map eRw) (k := 3) (by omega) (by omega) hV (by omega) hl (by omega)
  have f2 := smean_c (X := vsL V l) (k := 3) (by omega) ha (by rw [vsL_len]; omega) (by rw [vsL_len]; omega)
  have f4 := sloss_c (X := vsL V l) (k := 3) (by omega) ha (by rw [vsL_len]; omega)
  rw [vsL_len] at f2 f4
  have zl := lsV_sq ha (by rw [vsL_len]; omega)
  rw [vsL_len] at zl
  have f3 := qof_c (n := (l.length : Int)) (by omega) (by omega)
  have f5 := best_c (dep := dep) (lst := lst) (k := 3) (by omega) (by omega) hV hVl hl hr hw (by omega) hn64
  have m1 : ∀ x y : Rat, List.map eNd out ++ [[AV.b true, .i .i64 0, .b false, .l 1 [], .l 1 [], .i .i64 0, .i .i64 0, .b false, .b (ng x.num), (AV.l 1 (List.map u (D x.num.natAbs))), (AV.l 1 (List.map u (D x.den))), .b (ng y.num), (AV.l 1 (List.map u (D y.num.natAbs))), (AV.l 1 (List.map u (D y.den)))]] = List.map eNd (out ++ [⟨true, 0, dQ, 0, 0, false, rQ x, rQ y⟩]) := by
   intro x y; rw [List.map_append]; rfl
  have b2 : (out.length + 1) * 208 ≤ 140737488355328 := by omega
  have m5 : ∀ x : RNd, (out ++ [x]).take (out.length + 1) = out ++ [x] := snocNd out
  have e3 : IntKind.i64.wrap (((out.length + 1 : Nat) : Int) + 2) = ((out.length + 3 : Nat) : Int) := by rw [w64 (by omega) (by omega)]; omega
  have c1 : ¬ 255 < ((out.length + 3 : Nat) : Int) := by omega
  have c0 : ¬ ((d + 1 : Nat) : Int) = 0 := by omega
  have e4 : IntKind.i64.wrap (((d + 1 : Nat) : Int) - 1) = (d : Int) := by rw [w64 (by omega) (by omega)]; omega
  have hlf : ∀ T : List RNd, T = [lfN V l] → T = [⟨true, 0, dQ, 0, 0, false, rQ (mnV (vsL V l)), rQ (((l.length : Nat) : Int) : Rat)⟩] := fun T h => h
  cases hb : bestP V rows l lst n with
  | none =>
   have e1 : treeP V rows lst n (d + 1) l out.length = [⟨true, 0, dQ, 0, 0, false, rQ (mnV (vsL V l)), rQ (((l.length : Nat) : Int) : Rat)⟩] := by
    rw [treeP, hb]; rfl
   rw [e1]
   rw [hb, show spO none = eSp 0 dQ false dQ from rfl] at f5
   simp only [eSp, Option.isSome, zz] at f5
   generalize sR (vsL V l) = s at *
   generalize pR (vsL V l) = p at *
   generalize mnV (vsL V l) = y at *
   generalize lsV (vsL V l) = z at *
   generalize ((l.length : Int) : Rat) = w at *
   rw [R_go FF F238 c238.eq_1]
   simp only [RB, RL, un, St.none, Nat.reduceEqDiff, Nat.reduceAdd, Nat.reduceMul, Nat.reduceMod, Nat.reduceLeDiff, Nat.reduceLT, Int.reduceLT, Int.reduceLE, Int.reduceEq, Int.reduceToNat, Int.reduceSub, Int.reduceNeg, Int.reduceAdd, ↓reduceIte, reduceCtorEq, pack, pid, parN, lid, chkK, apartV, Heap.none, f1, f2, f3, f4, f5, n64, eX_rules, eX_row, eNd_rules, eNd_row, nJ, nK, Row.freeze, m1, m5, b2, c1, c0, e3, e4, zg]
  | some b =>
   obtain ⟨bf, bc, bm, bl⟩ := b
   have kk : bf < n ∧ bc ∈ ctV rows bf l ∧ few2 rows l lst bf bc bm = false ∧ bl = splV V rows l bf bc bm := bestP_mem hb
   obtain ⟨k1, k2, k3, k4⟩ := kk
   have k5 : sq bc ≤ 3 := (ctV_ok (by omega) (hw bf k1)).1 _ k2
   have k6 : sq bl ≤ 8000001 := by rw [show bl = splV V rows l bf bc bm from k4]; exact splV_sq (by omega) (by omega) hV hl (by omega)
   have g6 := vcmp_c (x := rQ bl) (y := rQ (lsV (vsL V l))) (k := 8000001) (j := 8000001) (sm_cq k6) (sm_cq (zj zl (by omega))) (by omega) (by omega)
   rw [vQ_rQ, vQ_rQ] at g6
   rw [hb, spO_some] at f5
   have q1 := qcmp_ge (x := bl) (y := lsV (vsL V l))
   by_cases hle : lsV (vsL V l) ≤ bl
   ·have e1 : treeP V rows lst n (d + 1) l out.length = [⟨true, 0, dQ, 0, 0, false, rQ (mnV (vsL V l)), rQ (((l.length : Nat) : Int) : Rat)⟩] := by
     rw [treeP, hb]; exact if_pos hle
    rw [e1]
    have c6 := q1.2 hle
    simp only [eSp, Option.isSome, rQ] at f5 g6
    generalize sR (vsL V l) = s at *
    generalize pR (vsL V l) = p at *
    generalize mnV (vsL V l) = y at *
    generalize lsV (vsL V l) = z at *
    generalize ((l.length : Int) : Rat) = w at *
    rw [R_go FF F238 c238.eq_1]
    simp only [RB, RL, un, St.none, Nat.reduceEqDiff, Nat.reduceAdd, Nat.reduceMul, Nat.reduceMod, Nat.reduceLeDiff, Nat.reduceLT, Int.reduceLT, Int.reduceLE, Int.reduceEq, Int.reduceToNat, Int.reduceSub, Int.reduceNeg, Int.reduceAdd, ↓reduceIte, reduceCtorEq, pack, pid, parN, lid, chkK, apartV, Heap.none, f1, f2, f3, f4, f5, g6, c6, n64, eX_rules, eX_row, eNd_rules, eNd_row, nJ, nK, Row.freeze, m1, m5, b2, c1, c0, e3, e4, zg]
   ·obtain ⟨h2, h3, h4⟩ := part_ok hlst k3
    have hA : InX (lfL rows l bf bc bm) V.length := filt_in hl
    have hB : InX (rgL rows l bf bc bm) V.length := filt_in hl
    have wA : ∀ f, f < n → WfD rows f (lfL rows l bf bc bm) 3 := wf_part _ hw
    have wB : ∀ f, f < n → WfD rows f (rgL rows l bf bc bm) 3 := wf_part _ hw
    have p1 := parted_c (fe := (n : Int)) (f := bf) (c := rQ bc) (ls := rQ bl) (m := bm) (es := V.map eQ) (k := 3) (by omega) (sm_cq k5) hr (hw bf k1) (by omega)
    rw [vQ_rQ] at p1
    change R FF 256 _ = some (AV.tup [AV.l 1 ((lfL rows l bf bc bm).map eX), AV.l 1 ((rgL rows l bf bc bm).map eX)]) at p1
    have tA := treeP_len (V := V) (rows := rows) (n := n) hlst d (lfL rows l bf bc bm) (out.length + 1) h2
    have i1 := ih (lfL rows l bf bc bm) (out ++ [lfN V l]) (by omega) hA wA (by omega) h2 (by rw [zi, List.length_singleton]; omega)
    rw [show (out ++ [lfN V l]).length = out.length + 1 by rw [zi, List.length_singleton]] at i1
    have i2 := ih (rgL rows l bf bc bm) (out ++ [lfN V l] ++ treeP V rows lst n d (lfL rows l bf bc bm) (out.length + 1)) (by omega) hB wB (by omega) h3 (by rw [zi, zi, List.length_singleton]; omega)
    have hlen2 : (out ++ [lfN V l] ++ treeP V rows lst n d (lfL rows l bf bc bm) (out.length + 1)).length = out.length + 1 + (treeP V rows lst n d (lfL rows l bf bc bm) (out.length + 1)).length := by rw [zi, zi, List.length_singleton]
    rw [hlen2] at i2
    have e1 : treeP V rows lst n (d + 1) l out.length = inN l bf (rQ bc) bm (out.length + 1) (out.length + 1 + (treeP V rows lst n d (lfL rows l bf bc bm) (out.length + 1)).length) :: (treeP V rows lst n d (lfL rows l bf bc bm) (out.length + 1) ++ treeP V rows lst n d (rgL rows l bf bc bm) (out.length + 1 + (treeP V rows lst n d (lfL rows l bf bc bm) (out.length + 1)).length)) := by
     rw [treeP, hb]; exact if_neg hle
    rw [e1]
    have c6 : ¬ 0 ≤ qcmp bl (lsV (vsL V l)) := fun h => hle (q1.1 h)
    have hlfN : lfN V l = ⟨true, 0, dQ, 0, 0, false, rQ (mnV (vsL V l)), rQ (((l.length : Nat) : Int) : Rat)⟩ := rfl
    have hs := set_here out (lfN V l) (inN l bf (rQ bc) bm (out.length + 1) (out.length + 1 + (treeP V rows lst n d (lfL rows l bf bc bm) (out.length + 1)).length)) (treeP V rows lst n d (lfL rows l bf bc bm) (out.length + 1)) (treeP V rows lst n d (rgL rows l bf bc bm) (out.length + 1 + (treeP V rows lst n d (lfL rows l bf bc bm) (out.length + 1)).length))
    rw [hlfN] at i1 i2 hs hlen2
    generalize treeP V rows lst n d (rgL rows l bf bc bm) (out.length + 1 + (treeP V rows lst n d (lfL rows l bf bc bm) (out.length + 1)).length) = TB at *
    generalize treeP V rows lst n d (lfL rows l bf bc bm) (out.length + 1) = TA at *
    generalize hq : out.length + 1 + TA.length = q at *
    have hpc := eNd_row.2.2.2.1 (out ++ [(⟨true, 0, dQ, 0, 0, false, rQ (mnV (vsL V l)), rQ (((l.length : Nat) : Int) : Rat)⟩ : RNd)] ++ TA ++ TB) out.length (inN l bf (rQ bc) bm (out.length + 1) q)
    rw [hs] at hpc
    have hl4 : (out ++ [(⟨true, 0, dQ, 0, 0, false, rQ (mnV (vsL V l)), rQ (((l.length : Nat) : Int) : Rat)⟩ : RNd)] ++ TA ++ TB).length = q + TB.length := by rw [zi, hlen2]
    have hl5 : (out ++ inN l bf (rQ bc) bm (out.length + 1) q :: (TA ++ TB)).length = q + TB.length := by
     rw [zi, zt, zi]; omega
    have mq := zb (Nat.le_of_eq hlen2)
    have mq2 := zb (Nat.le_of_eq hl4)
    have hidx : (out.length : Int) < ((q + TB.length : Nat) : Int) := by omega
    have hidx2 : out.length < q + TB.length := by omega
    generalize hO : out ++ inN l bf (rQ bc) bm (out.length + 1) q :: (TA ++ TB) = O at *
    change putC 14 _ out.length 0 [AV.b false, AV.i .i64 (bf : Int), AV.b (ng bc.num), (AV.l 1 (List.map u (D bc.num.natAbs))), (AV.l 1 (List.map u (D bc.den))), AV.i .i64 ((out.length + 1 : Nat) : Int), AV.i .i64 (q : Int), AV.b bm, AV.b false, AV.l 1 [], AV.l 1 [], AV.b (ng (((l.length : Nat) : Int) : Rat).num), (AV.l 1 (List.map u (D (((l.length : Nat) : Int) : Rat).num.natAbs))), (AV.l 1 (List.map u (D (((l.length : Nat) : Int) : Rat).den)))] = _ at hpc
    simp only [eSp, Option.isSome, rQ] at f5 g6 p1
    have hlr : (out ++ [(⟨true, 0, dQ, 0, 0, false, rQ (mnV (vsL V l)), rQ (((l.length : Nat) : Int) : Rat)⟩ : RNd)]).length = out.length + 1 := by rw [zi, List.length_singleton]
    generalize sR (vsL V l) = s at *
    generalize pR (vsL V l) = p at *
    generalize mnV (vsL V l) = y at *
    generalize lsV (vsL V l) = z at *
    generalize ((l.length : Int) : Rat) = w at *
    generalize lfL rows l bf bc bm = A at *
    generalize rgL rows l bf bc bm = B at *
    have mtO : zI (q + TB.length) (List.map eNd O) = List.map eNd O := zb (by rw [zq]; omega)
    rw [R_go FF F238 c238.eq_1]
    simp only [RB, RL, un, St.none, Nat.reduceEqDiff, Nat.reduceAdd, Nat.reduceMul, Nat.reduceMod, Nat.reduceLeDiff, Nat.reduceLT, Int.reduceLT, Int.reduceLE, Int.reduceEq, Int.reduceToNat, Int.reduceSub, Int.reduceNeg, Int.reduceAdd, ↓reduceIte, reduceCtorEq, pack, pid, parN, lid, chkK, apartV, Heap.none, f1, f2, f3, f4, f5, g6, c6, p1, n64, eX_rules, eX_row, eNd_rules, eNd_row, nJ, nK, Row.freeze, m1, m5, b2, c1, c0, e3, e4, zg, i1, i2, hlen2, hl4, hidx, hidx2, hpc, hlr, mtO, mq, mq2, zc]
theorem bestL_mem {V : List RQt} {rows : List (List RC)} {l : List Nat} {lst : Int} {n : Nat} {bf : Nat} {bc : RQt} {bm : Bool} {bl : Rat} (h : bestL V rows l lst n = some (bf, bc, bm, bl)) :
  bf < n ∧ vQ bc ∈ ctV rows bf l ∧ few2 rows l lst bf (vQ bc) bm = false ∧ bl = splV V rows l bf (vQ bc) bm := by
 have h1 : bestP V rows l lst n = some (bf, vQ bc, bm, bl) := by rw [← best_same, h]; rfl
 exact bestP_mem h1
theorem treeL_len {V : List RQt} {rows : List (List RC)} {lst : Int} {n : Nat} (hlst : 1 ≤ lst) : ∀ (d : Nat) (l : List Nat) (p : Nat), 1 ≤ l.length → (treeL V rows lst n d l p).length + 1 ≤ 2 * l.length := by
 intro d
 induction d with
 | zero => intro l p hl; show 1 + 1 ≤ _; omega
 | succ d ih =>
  intro l p hl
  unfold treeL
  split
  ·show 1 + 1 ≤ _; omega
  ·rename_i b hb
   split
   ·show 1 + 1 ≤ _; omega
   ·obtain ⟨bf, bc, bm, bl⟩ := b
    obtain ⟨h1, h2, h3⟩ := part_ok hlst (bestL_mem hb).2.2.1
    have i1 := ih (lfL rows l bf (vQ bc) bm) (p + 1) h1
    have i2 := ih (rgL rows l bf (vQ bc) bm) (p + 1 + (treeL V rows lst n d (lfL rows l bf (vQ bc) bm) (p + 1)).length) h2
    rw [zt, zi]
    show (treeL V rows lst n d (lfL rows l bf (vQ bc) bm) (p + 1)).length + (treeL V rows lst n d (rgL rows l bf (vQ bc) bm) (p + 1 + (treeL V rows lst n d (lfL rows l bf (vQ bc) bm) (p + 1)).length)).length + 1 + 1 ≤ _
    omega
theorem grown_c {V : List RQt} {rows : List (List RC)} {lst : Int} {n : Nat} (hlst : 1 ≤ lst) (hV : SmL V 3) (hVl : V.length ≤ 900) (hr : rows.length ≤ 1000) (hn64 : n ≤ 1000) : ∀ (d : Nat) (l : List Nat) (p : Nat), d ≤ 1000 → InX l V.length → (∀ f, f < n → WfD rows f l 3) → l.length ≤ 90 → 1 ≤ l.length → p + 2 * l.length ≤ 200 →
  R FF 275 [.agg [(AV.i .i64 ((n : Int))), .l 1 (rows.map eRw), .l 3 (V.map eQ)], .l 1 (l.map eX), (AV.i .i64 ((d : Int))), (AV.i .i64 lst), (AV.i .i64 ((p : Int)))] = some (.l 14 ((treeL V rows lst n d l p).map eNd)) := by
 intro d
 induction d with
 | zero =>
  intro l p hd hl hw hn h1 hp
  have f1 := mean26_c (f := (n : Int)) (rows := rows.map eRw) (k := 3) (by omega) (by omega) hV (by omega) hl (by omega)
  have f3 := qof_c (n := (l.length : Int)) (by omega) (by omega)
  have f5 := best26_c (lst := lst) (k := 3) (by omega) (by omega) hV hVl hl hr hw (by omega) hn64
  have e1 : (treeL V rows lst n 0 l p).map eNd = [[AV.b true, .i .i64 0, .b false, .l 1 [], .l 1 [], .i .i64 0, .i .i64 0, .b false, .b (ng (mnV (vsL V l)).num), (AV.l 1 (List.map u (D (mnV (vsL V l)).num.natAbs))), (AV.l 1 (List.map u (D (mnV (vsL V l)).den))), .b (ng (((l.length : Nat) : Int) : Rat).num), (AV.l 1 (List.map u (D (((l.length : Nat) : Int) : Rat).num.natAbs))), (AV.l 1 (List.map u (D (((l.length : Nat) : Int) : Rat).den)))]] := rfl
  rw [e1]
  generalize bestL V rows l lst n = res at *
  obtain ⟨z, oc, om, ol, ez⟩ := spL_form res
  rw [ez] at f5
  simp only [eSp] at f5
  generalize mnV (vsL V l) = y at *
  generalize ((l.length : Int) : Rat) = w at *
  rw [R_go FF F275 c275.eq_1]
  simp only [RB, RL, un, St.none, Nat.reduceEqDiff, Nat.reduceAdd, Nat.reduceMul, Nat.reduceMod, Nat.reduceLeDiff, Nat.reduceLT, Int.reduceLT, Int.reduceLE, Int.reduceEq, Int.reduceToNat, Int.reduceSub, Int.reduceNeg, Int.reduceAdd, ↓reduceIte, reduceCtorEq, pack, pid, parN, lid, chkK, apartV, Heap.none, f1, f3, f5, n64, eX_rules, eX_row, eNd_rules, eNd_row, Row.freeze]
 | succ d ih =>
  intro l p hd hl hw hn h1 hp
  have f1 := mean26_c (f := (n : Int)) (rows := rows.map eRw) (k := 3) (by omega) (by omega) hV (by omega) hl (by omega)
  have f2 := loss26_c (f := (n : Int)) (rows := rows.map eRw) (k := 3) (by omega) (by omega) hV (by omega) hl (by omega)
  have f3 := qof_c (n := (l.length : Int)) (by omega) (by omega)
  have f5 := best26_c (lst := lst) (k := 3) (by omega) (by omega) hV hVl hl hr hw (by omega) hn64
  have ha := vsL_all hV (by omega) hl
  have zl := lsV_sq ha (by rw [vsL_len]; omega)
  rw [vsL_len] at zl
  have c0 : ¬ ((d + 1 : Nat) : Int) = 0 := by omega
  have e4 : IntKind.i64.wrap (((d + 1 : Nat) : Int) - 1) = (d : Int) := by rw [w64 (by omega) (by omega)]; omega
  have e5 : IntKind.i64.wrap ((p : Int) + 1) = ((p + 1 : Nat) : Int) := w64succ (by omega)
  have elf : List.map eNd [lfN V l] = [[AV.b true, .i .i64 0, .b false, .l 1 [], .l 1 [], .i .i64 0, .i .i64 0, .b false, .b (ng (mnV (vsL V l)).num), (AV.l 1 (List.map u (D (mnV (vsL V l)).num.natAbs))), (AV.l 1 (List.map u (D (mnV (vsL V l)).den))), .b (ng (((l.length : Nat) : Int) : Rat).num), (AV.l 1 (List.map u (D (((l.length : Nat) : Int) : Rat).num.natAbs))), (AV.l 1 (List.map u (D (((l.length : Nat) : Int) : Rat).den)))]] := rfl
  cases hb : bestL V rows l lst n with
  | none =>
   have e1 : treeL V rows lst n (d + 1) l p = [lfN V l] := by rw [treeL, hb]
   rw [e1, elf]
   rw [hb, show spL none = eSp 0 dQ false dQ from rfl] at f5
   simp only [eSp, Option.isSome, zz] at f5
   generalize mnV (vsL V l) = y at *
   generalize lsV (vsL V l) = z at *
   generalize ((l.length : Int) : Rat) = w at *
   rw [R_go FF F275 c275.eq_1]
   simp only [RB, RL, un, St.none, Nat.reduceEqDiff, Nat.reduceAdd, Nat.reduceMul, Nat.reduceMod, Nat.reduceLeDiff, Nat.reduceLT, Int.reduceLT, Int.reduceLE, Int.reduceEq, Int.reduceToNat, Int.reduceSub, Int.reduceNeg, Int.reduceAdd, ↓reduceIte, reduceCtorEq, pack, pid, parN, lid, chkK, apartV, Heap.none, f1, f2, f3, f5, n64, eX_rules, eX_row, eNd_rules, eNd_row, Row.freeze, c0]
  | some b =>
   obtain ⟨bf, bc, bm, bl⟩ := b
   obtain ⟨k1, k2, k3, k4⟩ := bestL_mem hb
   have k5 : SmQ bc 3 := (bestL_ok (lst := lst) (by omega) (by omega) hV hl hw (by omega) _ hb).2
   have k6 : sq bl ≤ 8000001 := by rw [k4]; exact splV_sq (by omega) (by omega) hV hl (by omega)
   have g6 := vcmp_c (x := rQ bl) (y := rQ (lsV (vsL V l))) (k := 8000001) (j := 8000001) (sm_cq k6) (sm_cq (zj zl (by omega))) (by omega) (by omega)
   rw [vQ_rQ, vQ_rQ] at g6
   rw [hb, spL_some] at f5
   have q1 := qcmp_ge (x := bl) (y := lsV (vsL V l))
   by_cases hle : lsV (vsL V l) ≤ bl
   ·have e1 : treeL V rows lst n (d + 1) l p = [lfN V l] := by rw [treeL, hb]; exact if_pos hle
    rw [e1, elf]
    have c6 := q1.2 hle
    simp only [eSp, Option.isSome, rQ] at f5 g6
    generalize mnV (vsL V l) = y at *
    generalize lsV (vsL V l) = z at *
    generalize ((l.length : Int) : Rat) = w at *
    rw [R_go FF F275 c275.eq_1]
    simp only [RB, RL, un, St.none, Nat.reduceEqDiff, Nat.reduceAdd, Nat.reduceMul, Nat.reduceMod, Nat.reduceLeDiff, Nat.reduceLT, Int.reduceLT, Int.reduceLE, Int.reduceEq, Int.reduceToNat, Int.reduceSub, Int.reduceNeg, Int.reduceAdd, ↓reduceIte, reduceCtorEq, pack, pid, parN, lid, chkK, apartV, Heap.none, f1, f2, f3, f5, g6, c6, n64, eX_rules, eX_row, eNd_rules, eNd_row, Row.freeze, c0]
   ·obtain ⟨h2, h3, h4⟩ := part_ok hlst k3
    have hA : InX (lfL rows l bf (vQ bc) bm) V.length := filt_in hl
    have hB : InX (rgL rows l bf (vQ bc) bm) V.length := filt_in hl
    have wA : ∀ f, f < n → WfD rows f (lfL rows l bf (vQ bc) bm) 3 := wf_part _ hw
    have wB : ∀ f, f < n → WfD rows f (rgL rows l bf (vQ bc) bm) 3 := wf_part _ hw
    have p1 := parted26_c (fe := (n : Int)) (f := bf) (c := bc) (ls := rQ bl) (m := bm) (es := V.map eQ) (k := 3) (by omega) k5 hr (hw bf k1) (by omega)
    change R FF 282 _ = some (AV.tup [AV.l 1 ((lfL rows l bf (vQ bc) bm).map eX), AV.l 1 ((rgL rows l bf (vQ bc) bm).map eX)]) at p1
    have tA := treeL_len (V := V) (rows := rows) (n := n) hlst d (lfL rows l bf (vQ bc) bm) (p + 1) h2
    have i1 := ih (lfL rows l bf (vQ bc) bm) (p + 1) (by omega) hA wA (by omega) h2 (by omega)
    have i2 := ih (rgL rows l bf (vQ bc) bm) (p + 1 + (treeL V rows lst n d (lfL rows l bf (vQ bc) bm) (p + 1)).length) (by omega) hB wB (by omega) h3 (by omega)
    have e1 : treeL V rows lst n (d + 1) l p = inN l bf bc bm (p + 1) (p + 1 + (treeL V rows lst n d (lfL rows l bf (vQ bc) bm) (p + 1)).length) :: (treeL V rows lst n d (lfL rows l bf (vQ bc) bm) (p + 1) ++ treeL V rows lst n d (rgL rows l bf (vQ bc) bm) (p + 1 + (treeL V rows lst n d (lfL rows l bf (vQ bc) bm) (p + 1)).length)) := by
     rw [treeL, hb]; exact if_neg hle
    rw [e1]
    have tB := treeL_len (V := V) (rows := rows) (n := n) hlst d (rgL rows l bf (vQ bc) bm) (p + 1 + (treeL V rows lst n d (lfL rows l bf (vQ bc) bm) (p + 1)).length) h3
    have c6 : ¬ 0 ≤ qcmp bl (lsV (vsL V l)) := fun h => hle (q1.1 h)
    generalize treeL V rows lst n d (rgL rows l bf (vQ bc) bm) (p + 1 + (treeL V rows lst n d (lfL rows l bf (vQ bc) bm) (p + 1)).length) = TB at *
    generalize treeL V rows lst n d (lfL rows l bf (vQ bc) bm) (p + 1) = TA at *
    have e6 : IntKind.i64.wrap (((p + 1 : Nat) : Int) + (TA.length : Int)) = ((p + 1 + TA.length : Nat) : Int) := by rw [w64 (by omega) (by omega)]; omega
    have b1 : (1 + TA.length) * 208 ≤ 140737488355328 := by omega
    have b2 : (1 + TA.length + TB.length) * 208 ≤ 140737488355328 := by omega
    rw [List.map_cons, List.map_append, show eNd (inN l bf bc bm (p + 1) (p + 1 + TA.length)) = [AV.b false, AV.i .i64 (bf : Int), AV.b bc.1, (AV.l 1 (List.map u bc.2.1)), (AV.l 1 (List.map u bc.2.2)), AV.i .i64 ((p + 1 : Nat) : Int), AV.i .i64 ((p + 1 + TA.length : Nat) : Int), AV.b bm, AV.b false, AV.l 1 [], AV.l 1 [], AV.b (ng (((l.length : Nat) : Int) : Rat).num), (AV.l 1 (List.map u (D (((l.length : Nat) : Int) : Rat).num.natAbs))), (AV.l 1 (List.map u (D (((l.length : Nat) : Int) : Rat).den)))] from rfl]
    simp only [eSp, Option.isSome, rQ] at f5 g6 p1
    generalize mnV (vsL V l) = y at *
    generalize lsV (vsL V l) = z at *
    generalize ((l.length : Int) : Rat) = w at *
    generalize lfL rows l bf (vQ bc) bm = A at *
    generalize rgL rows l bf (vQ bc) bm = B at *
    rw [R_go FF F275 c275.eq_1]
    simp only [RB, RL, un, St.none, Nat.reduceEqDiff, Nat.reduceAdd, Nat.reduceMul, Nat.reduceMod, Nat.reduceLeDiff, Nat.reduceLT, Int.reduceLT, Int.reduceLE, Int.reduceEq, Int.reduceToNat, Int.reduceSub, Int.reduceNeg, Int.reduceAdd, ↓reduceIte, reduceCtorEq, pack, pid, parN, lid, chkK, apartV, Heap.none, f1, f2, f3, f5, g6, c6, p1, n64, eX_rules, eX_row, eNd_rules, eNd_row, Row.freeze, c0, e4, e5, e6, i1, i2, b1, b2]
    have t1 : ∀ x : List AV, zI (1 + TA.length) ([x] ++ List.map eNd TA) = [x] ++ List.map eNd TA := fun x => zb (by rw [zi, zq]; exact zk _)
    have t2 : ∀ x : List AV, zI (1 + TA.length + TB.length) ([x] ++ List.map eNd TA ++ List.map eNd TB) = [x] ++ List.map eNd TA ++ List.map eNd TB := fun x => zb (by rw [zi, zi, zq, zq]; exact zk _)
    rw [t1, t2, List.map_append]
    rfl
def trP (d : RD) (r : RR) : List RNd := treeP d.2.2 d.2.1 r.2 d.1.toNat r.1.toNat (zD d.2.1.length) 0
def trL (d : RD) (r : RR) : List RNd := treeL d.2.2 d.2.1 r.2 d.1.toNat r.1.toNat (zD d.2.1.length) 0
theorem Tree_c {d : RD} (h : OkD d) {r : RR} : R FF 214 [.agg (eD (fD d)), .agg (eR r)] = some (.tup [.own true 14 ((if rtV (fD d) r = 0 then trP (fD d) r else []).map eNd), (AV.i .i64 (rtV (fD d) r))]) := by
 have hl := fD_len d
 have f1 := gright_c (d := fD d) (r := r) (by omega)
 by_cases h0 : rtV (fD d) r = 0
 ·have hwf := fD_wf h h0
  obtain ⟨h1, h2, h3, h4⟩ := rtV_ok h0
  obtain ⟨hV, hVl⟩ := fD_vals h
  have hn : (zD (fD d).2.1.length).length ≤ 90 := by rw [List.length_range]; omega
  have hin : InX (zD (fD d).2.1.length) (fD d).2.2.length := by rw [← h2]; exact inX_range _
  have f2 := gevery_c (d := fD d) (by omega)
  have f3 := node_c (dep := r.1) (lst := r.2) (by omega) hV (by omega) (by omega) (by omega) r.1.toNat (zD (fD d).2.1.length) [] (by omega) hin hwf hn (by rw [List.length_range]; omega) (by rw [List.length_range, List.length_nil]; omega)
  rw [show (((fD d).1.toNat : Nat) : Int) = (fD d).1 by omega, show ((r.1.toNat : Nat) : Int) = r.1 by omega, List.nil_append] at f3
  change R FF 238 _ = some (AV.back (AV.i .i64 ((0 : Nat) : Int)) [AV.ownp [_, _, _, _, _, AV.own true 14 ((trP (fD d) r).map eNd)]]) at f3
  rw [if_pos h0]
  rw [h0] at f1 ⊢
  generalize trP (fD d) r = T at *
  generalize zD (fD d).2.1.length = L at *
  generalize fD d = e at *
  obtain ⟨f, rows, vals⟩ := e
  obtain ⟨dep, lst⟩ := r
  simp only [eD, eR, zz] at f1 f2 f3 ⊢
  rw [R_go FF F214 c214.eq_1]
  simp only [RB, RL, un, St.none, Nat.reduceEqDiff, Nat.reduceAdd, Nat.reduceMul, Nat.reduceMod, Nat.reduceLeDiff, Nat.reduceLT, Int.reduceLT, Int.reduceLE, Int.reduceEq, Int.reduceToNat, Int.reduceSub, Int.reduceNeg, Int.reduceAdd, ↓reduceIte, reduceCtorEq, pack, pid, parN, lid, chkK, apartV, Heap.none, f1, f2, f3, n64, eX_rules, eX_row, eNd_rules, eNd_row, nJ, nK, Row.freeze, zg]
 ·rw [if_neg h0]
  generalize rtV (fD d) r = v at *
  generalize fD d = e at *
  obtain ⟨f, rows, vals⟩ := e
  obtain ⟨dep, lst⟩ := r
  simp only [eD, eR, zz] at f1 ⊢
  rw [R_go FF F214 c214.eq_1]
  simp only [RB, RL, un, St.none, Nat.reduceEqDiff, Nat.reduceAdd, Nat.reduceMul, Nat.reduceMod, Nat.reduceLeDiff, Nat.reduceLT, Int.reduceLT, Int.reduceLE, Int.reduceEq, Int.reduceToNat, Int.reduceSub, Int.reduceNeg, Int.reduceAdd, ↓reduceIte, reduceCtorEq, pack, pid, parN, lid, chkK, apartV, Heap.none, f1, h0, n64]
def SameN (k : Nat) (x y : RNd) : Prop := (∃ a, x.cov = rQ a ∧ y.cov = rQ a ∧ sq a ≤ k) ∧
 ((x.leaf = true ∧ y.leaf = true ∧ ∃ v, x.val = rQ v ∧ y.val = rQ v ∧ sq v ≤ k) ∨ (x.leaf = false ∧ y.leaf = false ∧ x.ft = y.ft ∧ x.lft = y.lft ∧ x.rgt = y.rgt ∧ x.miss = y.miss ∧ x.cut = rQ (vQ y.cut) ∧ SmQ y.cut k))
theorem is_cc {a : Rat} {k : Nat} (hk : k ≤ 100000000) (h1k : 1 ≤ k) (h : sq a ≤ k) : R FF 171 [(AV.agg [AV.b (ng (zH a)), (AV.l 1 (List.map u (D (zC (zH a))))), (AV.l 1 (List.map u (D (Rat.den a))))]), (AV.agg [AV.b (ng (zH a)), (AV.l 1 (List.map u (D (zC (zH a))))), (AV.l 1 (List.map u (D (Rat.den a))))])] = some (.b true) := by
 have h1 := is10_c (x := a) (q := ng a.num) hk h1k h (sm_cq h)
 rwa [qv_cq, decide_eq_true rfl] at h1
theorem same_l0 {T T' : List RNd} {k : Nat} (hk : k ≤ 100000000) (h1k : 1 ≤ k) (hT : T.length ≤ 100000) (hl : T.length = T'.length) (h : ∀ i, i < T.length → SameN k (T.getD i dNd) (T'.getD i dNd)) : ∀ (d i : Nat), i + d = T.length →
  LP FF [(0, 0), (1, 0), (5, 0)] [(4, 0)] b274_0 [.l 14 (T.map eNd), .l 14 (T'.map eNd), (AV.i .i64 ((i : Int)))] = some (.exit 0, [.junk]) := by
 intro d
 induction d with
 | zero =>
  intro i hi
  have c1 : ¬ (i : Int) < (T.length : Int) := by omega
  rw [LP_go FF b274_0.eq_1]
  simp only [RB, RL, un, St.none, Nat.reduceEqDiff, Nat.reduceAdd, Nat.reduceMul, Nat.reduceMod, Nat.reduceLeDiff, Nat.reduceLT, Int.reduceLT, Int.reduceLE, Int.reduceEq, Int.reduceToNat, Int.reduceSub, Int.reduceNeg, Int.reduceAdd, ↓reduceIte, reduceCtorEq, pack, pid, parN, lid, chkK, apartV, Heap.none, c1]
 | succ d ih =>
  intro i hi
  have h9 := ih (i + 1) (by omega)
  have c1 : (i : Int) < (T.length : Int) := by omega
  have c2 : (i : Int) < (T'.length : Int) := by omega
  have e2 : IntKind.i64.wrap ((i : Int) + 1) = ((i + 1 : Nat) : Int) := w64succ (by omega)
  have hs := h i (by omega)
  have e3 : List.map eNd T = List.map eNd T := rfl
  obtain ⟨x, hx⟩ : ∃ x, x = T.getD i dNd := ⟨_, rfl⟩
  obtain ⟨y, hy⟩ : ∃ y, y = T'.getD i dNd := ⟨_, rfl⟩
  rw [← hx, ← hy] at hs
  have hx' := hx.symm
  have hy' := hy.symm
  obtain ⟨xl, xf, xc, xa, xb, xm, xv, xw⟩ := x
  obtain ⟨yl, yf, yc, ya, yb, ym, yv, yw⟩ := y
  obtain ⟨⟨a, ha1, ha2, ha3⟩, hs⟩ := hs
  simp only at ha1 ha2
  subst ha1 ha2
  have g1 := is_cc hk h1k ha3
  rcases hs with ⟨h1, h2, v, h3, h4, h5⟩ | ⟨h1, h2, h3, h4, h5, h6, h7, h8⟩
  ·simp only at h1 h2 h3 h4
   subst h1 h2 h3 h4
   have g2 := is_cc hk h1k h5
   rw [LP_go FF b274_0.eq_1]
   simp only [RB, RL, un, St.none, Nat.reduceEqDiff, Nat.reduceAdd, Nat.reduceMul, Nat.reduceMod, Nat.reduceLeDiff, Nat.reduceLT, Int.reduceLT, Int.reduceLE, Int.reduceEq, Int.reduceToNat, Int.reduceSub, Int.reduceNeg, Int.reduceAdd, ↓reduceIte, reduceCtorEq, pack, pid, parN, lid, chkK, apartV, Heap.none, c1, c2, hx', hy', eNd_rules, eNd_row, eNd, zc, g1, g2, e2, rQ, n64]
   exact h9
  ·simp only at h1 h2 h3 h4 h5 h6 h7 h8
   subst h1 h2 h3 h4 h5 h6 h7
   have g2 := is10_c (x := vQ yc) (q := yc.1) hk h1k (vQ_sq h8 h1k) h8
   change R FF 171 _ = some (AV.b (decide (vQ yc = vQ yc))) at g2
   rw [decide_eq_true rfl] at g2
   rw [LP_go FF b274_0.eq_1]
   simp only [RB, RL, un, St.none, Nat.reduceEqDiff, Nat.reduceAdd, Nat.reduceMul, Nat.reduceMod, Nat.reduceLeDiff, Nat.reduceLT, Int.reduceLT, Int.reduceLE, Int.reduceEq, Int.reduceToNat, Int.reduceSub, Int.reduceNeg, Int.reduceAdd, ↓reduceIte, reduceCtorEq, pack, pid, parN, lid, chkK, apartV, Heap.none, c1, c2, hx', hy', eNd_rules, eNd_row, eNd, zc, g1, g2, e2, rQ, n64]
   exact h9
theorem same_c {T T' : List RNd} {k : Nat} (hk : k ≤ 100000000) (h1k : 1 ≤ k) (hT : T.length ≤ 100000) (hl : T.length = T'.length) (h : ∀ i, i < T.length → SameN k (T.getD i dNd) (T'.getD i dNd)) : R FF 274 [.l 14 (T.map eNd), .l 14 (T'.map eNd)] = some (.b true) := by
 have l0 := same_l0 hk h1k hT hl h T.length 0 (by omega)
 rw [zx] at l0
 have c1 : (T.length : Int) = (T'.length : Int) := by omega
 rw [R_go FF F274 c274.eq_1]
 simp only [RB, RL, un, St.none, Nat.reduceEqDiff, Nat.reduceAdd, Nat.reduceMul, Nat.reduceMod, Nat.reduceLeDiff, Nat.reduceLT, Int.reduceLT, Int.reduceLE, Int.reduceEq, Int.reduceToNat, Int.reduceSub, Int.reduceNeg, Int.reduceAdd, ↓reduceIte, reduceCtorEq, pack, pid, parN, lid, chkK, apartV, Heap.none, c1, l0]
inductive All2 (R : RNd → RNd → Prop) : List RNd → List RNd → Prop where
 | nil : All2 R [] []
 | cons {a b : RNd} {l m : List RNd} (h : R a b) (hs : All2 R l m) : All2 R (a :: l) (b :: m)
theorem All2.app {R : RNd → RNd → Prop} {l m l' m' : List RNd} (h : All2 R l m) (h' : All2 R l' m') : All2 R (l ++ l') (m ++ m') := by
 induction h with
 | nil => exact h'
 | cons h hs ih => exact .cons h ih
theorem All2.len {R : RNd → RNd → Prop} {l m : List RNd} (h : All2 R l m) : l.length = m.length := by
 induction h with
 | nil => rfl
 | cons h hs ih => rw [zt, zt, ih]
theorem All2.get {R : RNd → RNd → Prop} {l m : List RNd} (h : All2 R l m) : ∀ i, i < l.length → R (l.getD i dNd) (m.getD i dNd) := by
 induction h with
 | nil => intro i hi; exact absurd hi (Nat.not_lt_zero _)
 | cons h hs ih =>
  intro i hi
  cases i with
  | zero => exact h
  | succ i => exact ih i (by rw [zt] at hi; omega)
theorem tree_same {V : List RQt} {rows : List (List RC)} {lst : Int} {n : Nat} (hV : SmL V 3) (hVl : V.length ≤ 900) : ∀ (d : Nat) (l : List Nat) (p : Nat), InX l V.length → (∀ f, f < n → WfD rows f l 3) → l.length ≤ 90 →
  All2 (SameN 10000) (treeP V rows lst n d l p) (treeL V rows lst n d l p) := by
 intro d
 have hleaf : ∀ l : List Nat, InX l V.length → l.length ≤ 90 → SameN 10000 (lfN V l) (lfN V l) := by
  intro l hl hn
  have h1 := mnV_sq (vsL_all hV (by omega) hl) (by rw [vsL_len]; omega)
  rw [vsL_len] at h1
  have h2 := sq_int (l.length : Int) (by omega)
  exact ⟨⟨_, rfl, rfl, zj h2 (by omega)⟩, .inl ⟨rfl, rfl, _, rfl, rfl, by omega⟩⟩
 induction d with
 | zero => intro l p hl hw hn; exact .cons (hleaf l hl hn) .nil
 | succ d ih =>
  intro l p hl hw hn
  have hs := best_same V rows l lst n
  cases hb : bestL V rows l lst n with
  | none =>
   have hb' : bestP V rows l lst n = none := by rw [← hs, hb]; rfl
   rw [treeP, treeL, hb, hb']
   exact .cons (hleaf l hl hn) .nil
  | some b =>
   obtain ⟨bf, bc, bm, bl⟩ := b
   have hb' : bestP V rows l lst n = some (bf, vQ bc, bm, bl) := by rw [← hs, hb]; rfl
   have k1 := (bestL_mem hb).1
   have k5 : SmQ bc 3 := (bestL_ok (lst := lst) (by omega) (by omega) hV hl hw (by omega) _ hb).2
   rw [treeP, treeL, hb, hb']
   show All2 _ (if lsV (vsL V l) ≤ bl then _ else _) (if lsV (vsL V l) ≤ bl then _ else _)
   by_cases hle : lsV (vsL V l) ≤ bl
   ·rw [if_pos hle, if_pos hle]; exact .cons (hleaf l hl hn) .nil
   ·rw [if_neg hle, if_neg hle]
    have hA : InX (lfL rows l bf (vQ bc) bm) V.length := filt_in hl
    have hB : InX (rgL rows l bf (vQ bc) bm) V.length := filt_in hl
    have wA : ∀ f, f < n → WfD rows f (lfL rows l bf (vQ bc) bm) 3 := wf_part _ hw
    have wB : ∀ f, f < n → WfD rows f (rgL rows l bf (vQ bc) bm) 3 := wf_part _ hw
    have nA : (lfL rows l bf (vQ bc) bm).length ≤ l.length := List.length_filter_le _ _
    have nB : (rgL rows l bf (vQ bc) bm).length ≤ l.length := List.length_filter_le _ _
    have i1 := ih (lfL rows l bf (vQ bc) bm) (p + 1) hA wA (by omega)
    have i2 := ih (rgL rows l bf (vQ bc) bm) (p + 1 + (treeP V rows lst n d (lfL rows l bf (vQ bc) bm) (p + 1)).length) hB wB (by omega)
    have h2 := sq_int (l.length : Int) (by omega)
    refine .cons ⟨⟨_, rfl, rfl, zj h2 (by omega)⟩, .inr ⟨rfl, rfl, rfl, rfl, ?_, rfl, rfl, k5.mono (by omega)⟩⟩ (i1.app ?_)
    ·show ((p + 1 + _ : Nat) : Int) = ((p + 1 + _ : Nat) : Int)
     rw [i1.len]
    ·rw [i1.len] at i2 ⊢
     exact i2
def bdR (len : Nat) (f : Int) (n : RNd) : Bool := !n.leaf && (decide (n.ft < 0) || decide (f ≤ n.ft) || decide (n.lft < 1) || decide ((len : Int) ≤ n.lft) || decide (n.rgt < 1) || decide ((len : Int) ≤ n.rgt))
def fstI (p : RNd → Bool) (t : List RNd) (i : Nat) : Nat := i + (t.drop i).findIdx p
theorem fstI_step {p : RNd → Bool} {t : List RNd} {i : Nat} (h : i < t.length) : fstI p t i = if p (t.getD i dNd) then i else fstI p t (i + 1) := by
 unfold fstI
 rw [List.drop_eq_getElem_cons h, List.findIdx_cons, za, ze h, Option.getD_some]
 cases p t[i]
 ·show i + (_ + 1) = _; rw [if_neg (by decide)]; omega
 ·rfl
theorem ranges_l0 {t : List RNd} {f : Int} (ht : t.length ≤ 100000) : ∀ (d i : Nat), i + d = t.length →
  LP FF [(0, 0), (1, 0), (8, 0), (9, 0), (10, 0)] [(4, 0), (5, 0)] b249_0 [.l 14 (t.map eNd), (AV.i .i64 f), .l 14 (t.map eNd), (AV.i .i64 ((t.length : Int))), (AV.i .i64 ((i : Int)))] = if (t.drop i).any (bdR t.length f) then some (.ret, [(AV.i .i64 ((fstI (bdR t.length f) t i : Int))), (AV.i .i64 8)]) else some (.exit 0, [.junk, .junk]) := by
 intro d
 induction d with
 | zero =>
  intro i hi
  have c1 : ¬ (i : Int) < (t.length : Int) := by omega
  rw [zF (by omega), List.any_nil, if_neg (by decide)]
  rw [LP_go FF b249_0.eq_1]
  simp only [RB, RL, un, St.none, Nat.reduceEqDiff, Nat.reduceAdd, Nat.reduceMul, Nat.reduceMod, Nat.reduceLeDiff, Nat.reduceLT, Int.reduceLT, Int.reduceLE, Int.reduceEq, Int.reduceToNat, Int.reduceSub, Int.reduceNeg, Int.reduceAdd, ↓reduceIte, reduceCtorEq, pack, pid, parN, lid, chkK, apartV, Heap.none, c1]
 | succ d ih =>
  intro i hi
  have hlt : i < t.length := by omega
  have h9 := ih (i + 1) (by omega)
  have c1 : (i : Int) < (t.length : Int) := by omega
  have e2 : IntKind.i64.wrap ((i : Int) + 1) = ((i + 1 : Nat) : Int) := w64succ (by omega)
  rw [any_drop dNd hlt, fstI_step hlt]
  obtain ⟨x, hx⟩ : ∃ x, x = t.getD i dNd := ⟨_, rfl⟩
  rw [← hx]
  have hx' := hx.symm
  have hb : bdR t.length f x = (!x.leaf && (decide (x.ft < 0) || decide (f ≤ x.ft) || decide (x.lft < 1) || decide ((t.length : Int) ≤ x.lft) || decide (x.rgt < 1) || decide ((t.length : Int) ≤ x.rgt))) := rfl
  obtain ⟨xl, xf, xc, xa, xb, xm, xv, xw⟩ := x
  simp only at hb
  cases xl with
  | true =>
   rw [show bdR t.length f ⟨true, xf, xc, xa, xb, xm, xv, xw⟩ = false from rfl, Bool.false_or, if_neg (show ¬ false = true by decide)]
   rw [LP_go FF b249_0.eq_1]
   simp only [RB, RL, un, St.none, Nat.reduceEqDiff, Nat.reduceAdd, Nat.reduceMul, Nat.reduceMod, Nat.reduceLeDiff, Nat.reduceLT, Int.reduceLT, Int.reduceLE, Int.reduceEq, Int.reduceToNat, Int.reduceSub, Int.reduceNeg, Int.reduceAdd, ↓reduceIte, reduceCtorEq, pack, pid, parN, lid, chkK, apartV, Heap.none, c1, hx', eNd_rules, eNd_row, eNd, zc, e2, n64]
   exact h9
  | false =>
   by_cases b1 : xf < 0
   ·rw [show bdR t.length f ⟨false, xf, xc, xa, xb, xm, xv, xw⟩ = true by rw [hb]; simp [b1], Bool.true_or, if_pos rfl, if_pos rfl]
    rw [LP_go FF b249_0.eq_1]
    simp only [RB, RL, un, St.none, Nat.reduceEqDiff, Nat.reduceAdd, Nat.reduceMul, Nat.reduceMod, Nat.reduceLeDiff, Nat.reduceLT, Int.reduceLT, Int.reduceLE, Int.reduceEq, Int.reduceToNat, Int.reduceSub, Int.reduceNeg, Int.reduceAdd, ↓reduceIte, reduceCtorEq, pack, pid, parN, lid, chkK, apartV, Heap.none, c1, hx', eNd_rules, eNd_row, eNd, zc, e2, n64, b1]
   by_cases b2 : f ≤ xf
   ·rw [show bdR t.length f ⟨false, xf, xc, xa, xb, xm, xv, xw⟩ = true by rw [hb]; simp [b1, b2], Bool.true_or, if_pos rfl, if_pos rfl]
    rw [LP_go FF b249_0.eq_1]
    simp only [RB, RL, un, St.none, Nat.reduceEqDiff, Nat.reduceAdd, Nat.reduceMul, Nat.reduceMod, Nat.reduceLeDiff, Nat.reduceLT, Int.reduceLT, Int.reduceLE, Int.reduceEq, Int.reduceToNat, Int.reduceSub, Int.reduceNeg, Int.reduceAdd, ↓reduceIte, reduceCtorEq, pack, pid, parN, lid, chkK, apartV, Heap.none, c1, hx', eNd_rules, eNd_row, eNd, zc, e2, n64, b1, b2]
   by_cases b3 : xa < 1
   ·rw [show bdR t.length f ⟨false, xf, xc, xa, xb, xm, xv, xw⟩ = true by rw [hb]; simp [b1, b2, b3], Bool.true_or, if_pos rfl, if_pos rfl]
    rw [LP_go FF b249_0.eq_1]
    simp only [RB, RL, un, St.none, Nat.reduceEqDiff, Nat.reduceAdd, Nat.reduceMul, Nat.reduceMod, Nat.reduceLeDiff, Nat.reduceLT, Int.reduceLT, Int.reduceLE, Int.reduceEq, Int.reduceToNat, Int.reduceSub, Int.reduceNeg, Int.reduceAdd, ↓reduceIte, reduceCtorEq, pack, pid, parN, lid, chkK, apartV, Heap.none, c1, hx', eNd_rules, eNd_row, eNd, zc, e2, n64, b1, b2, b3]
   by_cases b4 : (t.length : Int) ≤ xa
   ·rw [show bdR t.length f ⟨false, xf, xc, xa, xb, xm, xv, xw⟩ = true by rw [hb]; simp [b1, b2, b3, b4], Bool.true_or, if_pos rfl, if_pos rfl]
    rw [LP_go FF b249_0.eq_1]
    simp only [RB, RL, un, St.none, Nat.reduceEqDiff, Nat.reduceAdd, Nat.reduceMul, Nat.reduceMod, Nat.reduceLeDiff, Nat.reduceLT, Int.reduceLT, Int.reduceLE, Int.reduceEq, Int.reduceToNat, Int.reduceSub, Int.reduceNeg, Int.reduceAdd, ↓reduceIte, reduceCtorEq, pack, pid, parN, lid, chkK, apartV, Heap.none, c1, hx', eNd_rules, eNd_row, eNd, zc, e2, n64, b1, b2, b3, b4]
   by_cases b5 : xb < 1
   ·rw [show bdR t.length f ⟨false, xf, xc, xa, xb, xm, xv, xw⟩ = true by rw [hb]; simp [b1, b2, b3, b4, b5], Bool.true_or, if_pos rfl, if_pos rfl]
    rw [LP_go FF b249_0.eq_1]
    simp only [RB, RL, un, St.none, Nat.reduceEqDiff, Nat.reduceAdd, Nat.reduceMul, Nat.reduceMod, Nat.reduceLeDiff, Nat.reduceLT, Int.reduceLT, Int.reduceLE, Int.reduceEq, Int.reduceToNat, Int.reduceSub, Int.reduceNeg, Int.reduceAdd, ↓reduceIte, reduceCtorEq, pack, pid, parN, lid, chkK, apartV, Heap.none, c1, hx', eNd_rules, eNd_row, eNd, zc, e2, n64, b1, b2, b3, b4, b5]
   by_cases b6 : (t.length : Int) ≤ xb
   ·rw [show bdR t.length f ⟨false, xf, xc, xa, xb, xm, xv, xw⟩ = true by rw [hb]; simp [b1, b2, b3, b4, b5, b6], Bool.true_or, if_pos rfl, if_pos rfl]
    rw [LP_go FF b249_0.eq_1]
    simp only [RB, RL, un, St.none, Nat.reduceEqDiff, Nat.reduceAdd, Nat.reduceMul, Nat.reduceMod, Nat.reduceLeDiff, Nat.reduceLT, Int.reduceLT, Int.reduceLE, Int.reduceEq, Int.reduceToNat, Int.reduceSub, Int.reduceNeg, Int.reduceAdd, ↓reduceIte, reduceCtorEq, pack, pid, parN, lid, chkK, apartV, Heap.none, c1, hx', eNd_rules, eNd_row, eNd, zc, e2, n64, b1, b2, b3, b4, b5, b6]
   ·rw [show bdR t.length f ⟨false, xf, xc, xa, xb, xm, xv, xw⟩ = false by rw [hb]; simp [b1, b2, b3, b4, b5, b6], Bool.false_or, if_neg (show ¬ false = true by decide)]
    rw [LP_go FF b249_0.eq_1]
    simp only [RB, RL, un, St.none, Nat.reduceEqDiff, Nat.reduceAdd, Nat.reduceMul, Nat.reduceMod, Nat.reduceLeDiff, Nat.reduceLT, Int.reduceLT, Int.reduceLE, Int.reduceEq, Int.reduceToNat, Int.reduceSub, Int.reduceNeg, Int.reduceAdd, ↓reduceIte, reduceCtorEq, pack, pid, parN, lid, chkK, apartV, Heap.none, c1, hx', eNd_rules, eNd_row, eNd, zc, e2, n64, b1, b2, b3, b4, b5, b6]
    exact h9
theorem ranges_c {t : List RNd} {f : Int} (ht : t.length ≤ 100000) : ∃ i : Int, R FF 249 [.l 14 (t.map eNd), (AV.i .i64 f)] = some (.tup [(AV.i .i64 ((if t.any (bdR t.length f) then i else 0))), (AV.i .i64 ((if t.any (bdR t.length f) then 8 else 0)))]) := by
 refine ⟨(fstI (bdR t.length f) t 0 : Int), ?_⟩
 have l0 := ranges_l0 (f := f) ht t.length 0 (by omega)
 rw [zx, List.drop_zero] at l0
 by_cases h : t.any (bdR t.length f) = true
 ·rw [if_pos h] at l0
  rw [if_pos h, if_pos h]
  rw [R_go FF F249 c249.eq_1]
  simp only [RB, RL, un, St.none, Nat.reduceEqDiff, Nat.reduceAdd, Nat.reduceMul, Nat.reduceMod, Nat.reduceLeDiff, Nat.reduceLT, Int.reduceLT, Int.reduceLE, Int.reduceEq, Int.reduceToNat, Int.reduceSub, Int.reduceNeg, Int.reduceAdd, ↓reduceIte, reduceCtorEq, pack, pid, parN, lid, chkK, apartV, Heap.none, l0]
 ·rw [if_neg h] at l0
  rw [if_neg h, if_neg h]
  rw [R_go FF F249 c249.eq_1]
  simp only [RB, RL, un, St.none, Nat.reduceEqDiff, Nat.reduceAdd, Nat.reduceMul, Nat.reduceMod, Nat.reduceLeDiff, Nat.reduceLT, Int.reduceLT, Int.reduceLE, Int.reduceEq, Int.reduceToNat, Int.reduceSub, Int.reduceNeg, Int.reduceAdd, ↓reduceIte, reduceCtorEq, pack, pid, parN, lid, chkK, apartV, Heap.none, l0]
def SmT (t : List RNd) (k : Nat) : Prop := ∀ n ∈ t, SmQ n.cov k ∧ SmQ n.cut k ∧ SmQ n.val k
def bdC (n : RNd) : Bool := decide (cmp (vQ n.cov).num 0 ≤ 0)
theorem vsign_c {x : RQt} {k : Nat} (hk : k ≤ 100000000000) (h : SmQ x k) : R FF 162 [(AV.agg [AV.b x.1, (AV.l 1 (List.map u x.2.1)), (AV.l 1 (List.map u x.2.2))])] = some (AV.i .i64 (cmp (vQ x).num 0)) := qsign_c hk h
theorem covers_l0 {t : List RNd} {k : Nat} (hk : k ≤ 10000000000) (ht : t.length ≤ 100000) (hs : SmT t k) : ∀ (d i : Nat), i + d = t.length →
  LP FF [(6, 0), (7, 0), (8, 0)] [(2, 0), (3, 0)] b251_0 [.l 14 (t.map eNd), (AV.i .i64 ((t.length : Int))), (AV.i .i64 ((i : Int)))] = if (t.drop i).any bdC then some (.ret, [(AV.i .i64 ((fstI bdC t i : Int))), (AV.i .i64 12)]) else some (.exit 0, [.junk, .junk]) := by
 intro d
 induction d with
 | zero =>
  intro i hi
  have c1 : ¬ (i : Int) < (t.length : Int) := by omega
  rw [zF (by omega), List.any_nil, if_neg (by decide)]
  rw [LP_go FF b251_0.eq_1]
  simp only [RB, RL, un, St.none, Nat.reduceEqDiff, Nat.reduceAdd, Nat.reduceMul, Nat.reduceMod, Nat.reduceLeDiff, Nat.reduceLT, Int.reduceLT, Int.reduceLE, Int.reduceEq, Int.reduceToNat, Int.reduceSub, Int.reduceNeg, Int.reduceAdd, ↓reduceIte, reduceCtorEq, pack, pid, parN, lid, chkK, apartV, Heap.none, c1]
 | succ d ih =>
  intro i hi
  have hlt : i < t.length := by omega
  have h9 := ih (i + 1) (by omega)
  have c1 : (i : Int) < (t.length : Int) := by omega
  have e2 : IntKind.i64.wrap ((i : Int) + 1) = ((i + 1 : Nat) : Int) := w64succ (by omega)
  rw [any_drop dNd hlt, fstI_step hlt]
  have hm := hs _ (getD_mem' dNd hlt)
  obtain ⟨x, hx⟩ : ∃ x, x = t.getD i dNd := ⟨_, rfl⟩
  rw [← hx] at hm ⊢
  have hx' := hx.symm
  have f1 := vsign_c (by omega) hm.1
  have hb : bdC x = decide (cmp (vQ x.cov).num 0 ≤ 0) := rfl
  generalize cmp (vQ x.cov).num 0 = z at *
  obtain ⟨xl, xf, xc, xa, xb, xm, xv, xw⟩ := x
  simp only at f1
  by_cases b1 : z ≤ 0
  ·rw [hb, decide_eq_true b1, Bool.true_or, if_pos rfl, if_pos rfl]
   rw [LP_go FF b251_0.eq_1]
   simp only [RB, RL, un, St.none, Nat.reduceEqDiff, Nat.reduceAdd, Nat.reduceMul, Nat.reduceMod, Nat.reduceLeDiff, Nat.reduceLT, Int.reduceLT, Int.reduceLE, Int.reduceEq, Int.reduceToNat, Int.reduceSub, Int.reduceNeg, Int.reduceAdd, ↓reduceIte, reduceCtorEq, pack, pid, parN, lid, chkK, apartV, Heap.none, c1, hx', eNd_rules, eNd_row, eNd, zc, e2, n64, f1, b1]
  ·rw [hb, decide_eq_false b1, Bool.false_or, if_neg (show ¬ false = true by decide)]
   rw [LP_go FF b251_0.eq_1]
   simp only [RB, RL, un, St.none, Nat.reduceEqDiff, Nat.reduceAdd, Nat.reduceMul, Nat.reduceMod, Nat.reduceLeDiff, Nat.reduceLT, Int.reduceLT, Int.reduceLE, Int.reduceEq, Int.reduceToNat, Int.reduceSub, Int.reduceNeg, Int.reduceAdd, ↓reduceIte, reduceCtorEq, pack, pid, parN, lid, chkK, apartV, Heap.none, c1, hx', eNd_rules, eNd_row, eNd, zc, e2, n64, f1, b1]
   exact h9
theorem covers_c {t : List RNd} {k : Nat} (hk : k ≤ 10000000000) (ht : t.length ≤ 100000) (hs : SmT t k) : ∃ i : Int, R FF 251 [.l 14 (t.map eNd)] = some (.tup [(AV.i .i64 ((if t.any bdC then i else 0))), (AV.i .i64 ((if t.any bdC then 12 else 0)))]) := by
 refine ⟨(fstI bdC t 0 : Int), ?_⟩
 have l0 := covers_l0 hk ht hs t.length 0 (by omega)
 rw [zx, List.drop_zero] at l0
 by_cases h : t.any bdC = true
 ·rw [if_pos h] at l0
  rw [if_pos h, if_pos h]
  rw [R_go FF F251 c251.eq_1]
  simp only [RB, RL, un, St.none, Nat.reduceEqDiff, Nat.reduceAdd, Nat.reduceMul, Nat.reduceMod, Nat.reduceLeDiff, Nat.reduceLT, Int.reduceLT, Int.reduceLE, Int.reduceEq, Int.reduceToNat, Int.reduceSub, Int.reduceNeg, Int.reduceAdd, ↓reduceIte, reduceCtorEq, pack, pid, parN, lid, chkK, apartV, Heap.none, l0]
 ·rw [if_neg h] at l0
  rw [if_neg h, if_neg h]
  rw [R_go FF F251 c251.eq_1]
  simp only [RB, RL, un, St.none, Nat.reduceEqDiff, Nat.reduceAdd, Nat.reduceMul, Nat.reduceMod, Nat.reduceLeDiff, Nat.reduceLT, Int.reduceLT, Int.reduceLE, Int.reduceEq, Int.reduceToNat, Int.reduceSub, Int.reduceNeg, Int.reduceAdd, ↓reduceIte, reduceCtorEq, pack, pid, parN, lid, chkK, apartV, Heap.none, l0]
def bdS (t : List RNd) (n : RNd) : Bool := !n.leaf && !decide (vQ n.cov = vQ (t.getD n.lft.toNat dNd).cov + vQ (t.getD n.rgt.toNat dNd).cov)
theorem vadd_c {x y : RQt} {k j : Nat} (hx : SmQ x k) (hy : SmQ y j) (hk : k ≤ 40000000000) (hj : j ≤ 40000000000) : R FF 31 [(AV.agg [AV.b x.1, (AV.l 1 (List.map u x.2.1)), (AV.l 1 (List.map u x.2.2))]), (AV.agg [AV.b y.1, (AV.l 1 (List.map u y.2.1)), (AV.l 1 (List.map u y.2.2))])] = some (AV.agg [AV.b (ng (zH ((vQ x + vQ y)))), (AV.l 1 (List.map u (D (zC (zH ((vQ x + vQ y))))))), (AV.l 1 (List.map u (D (Rat.den ((vQ x + vQ y))))))]) := qadd_s hx hy hk hj
theorem vsums_l0 {t : List RNd} {f : Int} {k : Nat} (hk : k ≤ 10000000000) (h1k : 1 ≤ k) (ht : t.length ≤ 100000) (hs : SmT t k) (hr : t.any (bdR t.length f) = false) : ∀ (d i : Nat), i + d = t.length →
  LP FF [(0, 0), (6, 0), (7, 0), (8, 0)] [(2, 0), (3, 0)] b252_0 [.l 14 (t.map eNd), .l 14 (t.map eNd), (AV.i .i64 ((t.length : Int))), (AV.i .i64 ((i : Int)))] = if (t.drop i).any (bdS t) then some (.ret, [(AV.i .i64 ((fstI (bdS t) t i : Int))), (AV.i .i64 13)]) else some (.exit 0, [.junk, .junk]) := by
 intro d
 induction d with
 | zero =>
  intro i hi
  have c1 : ¬ (i : Int) < (t.length : Int) := by omega
  rw [zF (by omega), List.any_nil, if_neg (by decide)]
  rw [LP_go FF b252_0.eq_1]
  simp only [RB, RL, un, St.none, Nat.reduceEqDiff, Nat.reduceAdd, Nat.reduceMul, Nat.reduceMod, Nat.reduceLeDiff, Nat.reduceLT, Int.reduceLT, Int.reduceLE, Int.reduceEq, Int.reduceToNat, Int.reduceSub, Int.reduceNeg, Int.reduceAdd, ↓reduceIte, reduceCtorEq, pack, pid, parN, lid, chkK, apartV, Heap.none, c1]
 | succ d ih =>
  intro i hi
  have hlt : i < t.length := by omega
  have h9 := ih (i + 1) (by omega)
  have c1 : (i : Int) < (t.length : Int) := by omega
  have e2 : IntKind.i64.wrap ((i : Int) + 1) = ((i + 1 : Nat) : Int) := w64succ (by omega)
  rw [any_drop dNd hlt, fstI_step hlt]
  have hmem := getD_mem' dNd hlt
  have hm := hs _ hmem
  have hr2 : bdR t.length f (t.getD i dNd) = false := by
   rw [List.any_eq_false] at hr
   simpa using hr _ hmem
  obtain ⟨x, hx⟩ : ∃ x, x = t.getD i dNd := ⟨_, rfl⟩
  rw [← hx] at hm hr2 ⊢
  have hx' := hx.symm
  have hb : bdS t x = (!x.leaf && !decide (vQ x.cov = vQ (t.getD x.lft.toNat dNd).cov + vQ (t.getD x.rgt.toNat dNd).cov)) := rfl
  obtain ⟨xl, xf, xc, xa, xb, xm, xv, xw⟩ := x
  simp only at hb hm
  cases xl with
  | true =>
   rw [show bdS t ⟨true, xf, xc, xa, xb, xm, xv, xw⟩ = false from rfl, Bool.false_or, if_neg (show ¬ false = true by decide)]
   rw [LP_go FF b252_0.eq_1]
   simp only [RB, RL, un, St.none, Nat.reduceEqDiff, Nat.reduceAdd, Nat.reduceMul, Nat.reduceMod, Nat.reduceLeDiff, Nat.reduceLT, Int.reduceLT, Int.reduceLE, Int.reduceEq, Int.reduceToNat, Int.reduceSub, Int.reduceNeg, Int.reduceAdd, ↓reduceIte, reduceCtorEq, pack, pid, parN, lid, chkK, apartV, Heap.none, c1, hx', eNd_rules, eNd_row, eNd, zc, e2, n64]
   exact h9
  | false =>
   have hr3 : (decide (xf < 0) || decide (f ≤ xf) || decide (xa < 1) || decide ((t.length : Int) ≤ xa) || decide (xb < 1) || decide ((t.length : Int) ≤ xb)) = false := hr2
   simp only [Bool.or_eq_false_iff, decide_eq_false_iff_not] at hr3
   have ha : xa.toNat < t.length := by omega
   have hb2 : xb.toNat < t.length := by omega
   have a1 : 0 ≤ xa := by omega
   have a2 : xa < (t.length : Int) := by omega
   have b1 : 0 ≤ xb := by omega
   have b2 : xb < (t.length : Int) := by omega
   have sa := (hs _ (getD_mem' dNd ha)).1
   have sb := (hs _ (getD_mem' dNd hb2)).1
   have f1 := vadd_c (k := k) (j := k) sa sb (by omega) (by omega)
   have z1 : sq (vQ (t.getD xa.toNat dNd).cov + vQ (t.getD xb.toNat dNd).cov) ≤ 2 * k + 1 := by
    have q1 := sq_add (vQ (t.getD xa.toNat dNd).cov) (vQ (t.getD xb.toNat dNd).cov)
    have q2 := vQ_sq sa h1k
    have q3 := vQ_sq sb h1k
    omega
   have f2 := vsame_c (x := xw) (y := rQ (vQ (t.getD xa.toNat dNd).cov + vQ (t.getD xb.toNat dNd).cov)) (k := k) (j := 2 * k + 1) hm.1 (sm_cq z1) (by omega) (by omega)
   rw [vQ_rQ] at f2
   generalize vQ (t.getD xa.toNat dNd).cov + vQ (t.getD xb.toNat dNd).cov = s at *
   simp only [rQ] at f2
   by_cases h0 : vQ xw = s
   ·rw [hb, decide_eq_true h0, show (!false && !true) = false from rfl, Bool.false_or, if_neg (show ¬ false = true by decide)]
    rw [decide_eq_true h0] at f2
    rw [LP_go FF b252_0.eq_1]
    simp only [RB, RL, un, St.none, Nat.reduceEqDiff, Nat.reduceAdd, Nat.reduceMul, Nat.reduceMod, Nat.reduceLeDiff, Nat.reduceLT, Int.reduceLT, Int.reduceLE, Int.reduceEq, Int.reduceToNat, Int.reduceSub, Int.reduceNeg, Int.reduceAdd, ↓reduceIte, reduceCtorEq, pack, pid, parN, lid, chkK, apartV, Heap.none, c1, hx', eNd_rules, eNd_row, eNd, zc, e2, n64, a1, a2, b1, b2, f1, f2]
    exact h9
   ·rw [hb, decide_eq_false h0, show (!false && !false) = true from rfl, Bool.true_or, if_pos rfl, if_pos rfl]
    rw [decide_eq_false h0] at f2
    rw [LP_go FF b252_0.eq_1]
    simp only [RB, RL, un, St.none, Nat.reduceEqDiff, Nat.reduceAdd, Nat.reduceMul, Nat.reduceMod, Nat.reduceLeDiff, Nat.reduceLT, Int.reduceLT, Int.reduceLE, Int.reduceEq, Int.reduceToNat, Int.reduceSub, Int.reduceNeg, Int.reduceAdd, ↓reduceIte, reduceCtorEq, pack, pid, parN, lid, chkK, apartV, Heap.none, c1, hx', eNd_rules, eNd_row, eNd, zc, e2, n64, a1, a2, b1, b2, f1, f2]
theorem vsums_c {t : List RNd} {f : Int} {k : Nat} (hk : k ≤ 10000000000) (h1k : 1 ≤ k) (ht : t.length ≤ 100000) (hs : SmT t k) (hr : t.any (bdR t.length f) = false) : ∃ i : Int, R FF 252 [.l 14 (t.map eNd)] = some (.tup [(AV.i .i64 ((if t.any (bdS t) then i else 0))), (AV.i .i64 ((if t.any (bdS t) then 13 else 0)))]) := by
 refine ⟨(fstI (bdS t) t 0 : Int), ?_⟩
 have l0 := vsums_l0 hk h1k ht hs hr t.length 0 (by omega)
 rw [zx, List.drop_zero] at l0
 by_cases h : t.any (bdS t) = true
 ·rw [if_pos h] at l0
  rw [if_pos h, if_pos h]
  rw [R_go FF F252 c252.eq_1]
  simp only [RB, RL, un, St.none, Nat.reduceEqDiff, Nat.reduceAdd, Nat.reduceMul, Nat.reduceMod, Nat.reduceLeDiff, Nat.reduceLT, Int.reduceLT, Int.reduceLE, Int.reduceEq, Int.reduceToNat, Int.reduceSub, Int.reduceNeg, Int.reduceAdd, ↓reduceIte, reduceCtorEq, pack, pid, parN, lid, chkK, apartV, Heap.none, l0]
 ·rw [if_neg h] at l0
  rw [if_neg h, if_neg h]
  rw [R_go FF F252 c252.eq_1]
  simp only [RB, RL, un, St.none, Nat.reduceEqDiff, Nat.reduceAdd, Nat.reduceMul, Nat.reduceMod, Nat.reduceLeDiff, Nat.reduceLT, Int.reduceLT, Int.reduceLE, Int.reduceEq, Int.reduceToNat, Int.reduceSub, Int.reduceNeg, Int.reduceAdd, ↓reduceIte, reduceCtorEq, pack, pid, parN, lid, chkK, apartV, Heap.none, l0]
def bdF (n : RNd) : Bool := decide (n.ft < 0) || decide (64 < n.ft) || decide (n.lft < 0) || decide (255 < n.lft) || decide (n.rgt < 0) || decide (255 < n.rgt)
def bdT (t : List RNd) : Bool := decide ((t.length : Int) < 1) || decide (255 < (t.length : Int)) || t.any bdF
theorem fits_l1 {t : List RNd} {ts : List (List RNd)} {m j : Int} (ht : t.length ≤ 100000) : ∀ (d i : Nat), i + d = t.length →
  LP FF [(22, 0), (23, 0), (24, 0), (36, 0), (37, 0), (38, 0)] [(2, 0), (22, 0), (23, 0), (24, 0)] b248_1 [.l 1 (ts.map eTr), (AV.i .i64 m), (AV.i .i64 j), .l 14 (t.map eNd), (AV.i .i64 ((t.length : Int))), (AV.i .i64 ((i : Int)))] = if (t.drop i).any bdF then some (.ret, [.b false, .l 1 (ts.map eTr), (AV.i .i64 m), (AV.i .i64 j)]) else some (.exit 2, [.junk, .l 1 (ts.map eTr), (AV.i .i64 m), (AV.i .i64 j)]) := by
 intro d
 induction d with
 | zero =>
  intro i hi
  have c1 : ¬ (i : Int) < (t.length : Int) := by omega
  rw [zF (by omega), List.any_nil, if_neg (by decide)]
  rw [LP_go FF b248_1.eq_1]
  simp only [RB, RL, un, St.none, Nat.reduceEqDiff, Nat.reduceAdd, Nat.reduceMul, Nat.reduceMod, Nat.reduceLeDiff, Nat.reduceLT, Int.reduceLT, Int.reduceLE, Int.reduceEq, Int.reduceToNat, Int.reduceSub, Int.reduceNeg, Int.reduceAdd, ↓reduceIte, reduceCtorEq, pack, pid, parN, lid, chkK, apartV, Heap.none, c1, eTr_rules, eTr_row]
 | succ d ih =>
  intro i hi
  have hlt : i < t.length := by omega
  have h9 := ih (i + 1) (by omega)
  have c1 : (i : Int) < (t.length : Int) := by omega
  have e2 : IntKind.i64.wrap ((i : Int) + 1) = ((i + 1 : Nat) : Int) := w64succ (by omega)
  rw [any_drop dNd hlt]
  obtain ⟨x, hx⟩ : ∃ x, x = t.getD i dNd := ⟨_, rfl⟩
  rw [← hx]
  have hx' := hx.symm
  have hb : bdF x = (decide (x.ft < 0) || decide (64 < x.ft) || decide (x.lft < 0) || decide (255 < x.lft) || decide (x.rgt < 0) || decide (255 < x.rgt)) := rfl
  rw [hb]
  obtain ⟨xl, xf, xc, xa, xb, xm, xv, xw⟩ := x
  simp only
  by_cases b1 : xf < 0
  ·rw [if_pos (by simp [b1])]
   rw [LP_go FF b248_1.eq_1]
   simp only [RB, RL, un, St.none, Nat.reduceEqDiff, Nat.reduceAdd, Nat.reduceMul, Nat.reduceMod, Nat.reduceLeDiff, Nat.reduceLT, Int.reduceLT, Int.reduceLE, Int.reduceEq, Int.reduceToNat, Int.reduceSub, Int.reduceNeg, Int.reduceAdd, ↓reduceIte, reduceCtorEq, pack, pid, parN, lid, chkK, apartV, Heap.none, c1, hx', eNd_rules, eNd_row, eNd, eTr_rules, eTr_row, zc, e2, n64, b1]
  by_cases b2 : 64 < xf
  ·rw [if_pos (by simp [b1, b2])]
   rw [LP_go FF b248_1.eq_1]
   simp only [RB, RL, un, St.none, Nat.reduceEqDiff, Nat.reduceAdd, Nat.reduceMul, Nat.reduceMod, Nat.reduceLeDiff, Nat.reduceLT, Int.reduceLT, Int.reduceLE, Int.reduceEq, Int.reduceToNat, Int.reduceSub, Int.reduceNeg, Int.reduceAdd, ↓reduceIte, reduceCtorEq, pack, pid, parN, lid, chkK, apartV, Heap.none, c1, hx', eNd_rules, eNd_row, eNd, eTr_rules, eTr_row, zc, e2, n64, b1, b2]
  by_cases b3 : xa < 0
  ·rw [if_pos (by simp [b1, b2, b3])]
   rw [LP_go FF b248_1.eq_1]
   simp only [RB, RL, un, St.none, Nat.reduceEqDiff, Nat.reduceAdd, Nat.reduceMul, Nat.reduceMod, Nat.reduceLeDiff, Nat.reduceLT, Int.reduceLT, Int.reduceLE, Int.reduceEq, Int.reduceToNat, Int.reduceSub, Int.reduceNeg, Int.reduceAdd, ↓reduceIte, reduceCtorEq, pack, pid, parN, lid, chkK, apartV, Heap.none, c1, hx', eNd_rules, eNd_row, eNd, eTr_rules, eTr_row, zc, e2, n64, b1, b2, b3]
  by_cases b4 : 255 < xa
  ·rw [if_pos (by simp [b1, b2, b3, b4])]
   rw [LP_go FF b248_1.eq_1]
   simp only [RB, RL, un, St.none, Nat.reduceEqDiff, Nat.reduceAdd, Nat.reduceMul, Nat.reduceMod, Nat.reduceLeDiff, Nat.reduceLT, Int.reduceLT, Int.reduceLE, Int.reduceEq, Int.reduceToNat, Int.reduceSub, Int.reduceNeg, Int.reduceAdd, ↓reduceIte, reduceCtorEq, pack, pid, parN, lid, chkK, apartV, Heap.none, c1, hx', eNd_rules, eNd_row, eNd, eTr_rules, eTr_row, zc, e2, n64, b1, b2, b3, b4]
  by_cases b5 : xb < 0
  ·rw [if_pos (by simp [b1, b2, b3, b4, b5])]
   rw [LP_go FF b248_1.eq_1]
   simp only [RB, RL, un, St.none, Nat.reduceEqDiff, Nat.reduceAdd, Nat.reduceMul, Nat.reduceMod, Nat.reduceLeDiff, Nat.reduceLT, Int.reduceLT, Int.reduceLE, Int.reduceEq, Int.reduceToNat, Int.reduceSub, Int.reduceNeg, Int.reduceAdd, ↓reduceIte, reduceCtorEq, pack, pid, parN, lid, chkK, apartV, Heap.none, c1, hx', eNd_rules, eNd_row, eNd, eTr_rules, eTr_row, zc, e2, n64, b1, b2, b3, b4, b5]
  by_cases b6 : 255 < xb
  ·rw [if_pos (by simp [b1, b2, b3, b4, b5, b6])]
   rw [LP_go FF b248_1.eq_1]
   simp only [RB, RL, un, St.none, Nat.reduceEqDiff, Nat.reduceAdd, Nat.reduceMul, Nat.reduceMod, Nat.reduceLeDiff, Nat.reduceLT, Int.reduceLT, Int.reduceLE, Int.reduceEq, Int.reduceToNat, Int.reduceSub, Int.reduceNeg, Int.reduceAdd, ↓reduceIte, reduceCtorEq, pack, pid, parN, lid, chkK, apartV, Heap.none, c1, hx', eNd_rules, eNd_row, eNd, eTr_rules, eTr_row, zc, e2, n64, b1, b2, b3, b4, b5, b6]
  rw [show (decide (xf < 0) || decide (64 < xf) || decide (xa < 0) || decide (255 < xa) || decide (xb < 0) || decide (255 < xb)) = false by simp [b1, b2, b3, b4, b5, b6], Bool.false_or]
  rw [LP_go FF b248_1.eq_1]
  simp only [RB, RL, un, St.none, Nat.reduceEqDiff, Nat.reduceAdd, Nat.reduceMul, Nat.reduceMod, Nat.reduceLeDiff, Nat.reduceLT, Int.reduceLT, Int.reduceLE, Int.reduceEq, Int.reduceToNat, Int.reduceSub, Int.reduceNeg, Int.reduceAdd, ↓reduceIte, reduceCtorEq, pack, pid, parN, lid, chkK, apartV, Heap.none, c1, hx', eNd_rules, eNd_row, eNd, eTr_rules, eTr_row, zc, e2, n64, b1, b2, b3, b4, b5, b6]
  exact h9
theorem any_dropT {p : List RNd → Bool} {l : List (List RNd)} {i : Nat} (h : i < l.length) : (l.drop i).any p = (p (l.getD i []) || (l.drop (i + 1)).any p) := any_drop [] h
theorem fits_l0 {ts : List (List RNd)} (hts : ts.length ≤ 100000) (ht : ∀ t ∈ ts, t.length ≤ 100000) : ∀ (d i : Nat), i + d = ts.length →
  LP FF [(22, 0), (23, 0), (24, 0)] [(2, 0)] b248_0 [.l 1 (ts.map eTr), (AV.i .i64 ((ts.length : Int))), (AV.i .i64 ((i : Int)))] = if (ts.drop i).any bdT then some (.ret, [.b false]) else some (.exit 0, [.junk]) := by
 intro d
 induction d with
 | zero =>
  intro i hi
  have c1 : ¬ (i : Int) < (ts.length : Int) := by omega
  rw [zF (by omega), List.any_nil, if_neg (by decide)]
  rw [LP_go FF b248_0.eq_1]
  simp only [RB, RL, un, St.none, Nat.reduceEqDiff, Nat.reduceAdd, Nat.reduceMul, Nat.reduceMod, Nat.reduceLeDiff, Nat.reduceLT, Int.reduceLT, Int.reduceLE, Int.reduceEq, Int.reduceToNat, Int.reduceSub, Int.reduceNeg, Int.reduceAdd, ↓reduceIte, reduceCtorEq, pack, pid, parN, lid, chkK, apartV, Heap.none, c1, eTr_rules, eTr_row]
 | succ d ih =>
  intro i hi
  have hlt : i < ts.length := by omega
  have h9 := ih (i + 1) (by omega)
  have c1 : (i : Int) < (ts.length : Int) := by omega
  have e2 : IntKind.i64.wrap ((i : Int) + 1) = ((i + 1 : Nat) : Int) := w64succ (by omega)
  rw [any_dropT hlt]
  have l1 := fits_l1 (t := ts.getD i []) (ts := ts) (m := (ts.length : Int)) (j := (i : Int)) (ht _ (getD_mem' [] hlt)) (ts.getD i []).length 0 (by omega)
  rw [zx, List.drop_zero] at l1
  obtain ⟨x, hx⟩ : ∃ x, x = ts.getD i [] := ⟨_, rfl⟩
  rw [← hx] at l1 ⊢
  have hx' := hx.symm
  have hb : bdT x = (decide ((x.length : Int) < 1) || decide (255 < (x.length : Int)) || x.any bdF) := rfl
  rw [hb]
  by_cases b1 : (x.length : Int) < 1
  ·rw [if_pos (by simp [b1])]
   rw [LP_go FF b248_0.eq_1]
   simp only [RB, RL, un, St.none, Nat.reduceEqDiff, Nat.reduceAdd, Nat.reduceMul, Nat.reduceMod, Nat.reduceLeDiff, Nat.reduceLT, Int.reduceLT, Int.reduceLE, Int.reduceEq, Int.reduceToNat, Int.reduceSub, Int.reduceNeg, Int.reduceAdd, ↓reduceIte, reduceCtorEq, pack, pid, parN, lid, chkK, apartV, Heap.none, c1, hx', eNd_rules, eNd_row, eTr_rules, eTr_row, zc, e2, n64, b1]
  by_cases b2 : 255 < (x.length : Int)
  ·rw [if_pos (by simp [b2])]
   rw [LP_go FF b248_0.eq_1]
   simp only [RB, RL, un, St.none, Nat.reduceEqDiff, Nat.reduceAdd, Nat.reduceMul, Nat.reduceMod, Nat.reduceLeDiff, Nat.reduceLT, Int.reduceLT, Int.reduceLE, Int.reduceEq, Int.reduceToNat, Int.reduceSub, Int.reduceNeg, Int.reduceAdd, ↓reduceIte, reduceCtorEq, pack, pid, parN, lid, chkK, apartV, Heap.none, c1, hx', eNd_rules, eNd_row, eTr_rules, eTr_row, zc, e2, n64, b1, b2]
  rw [decide_eq_false b1, decide_eq_false b2, Bool.false_or, Bool.false_or]
  cases hf : x.any bdF
  ·rw [hf, if_neg (by decide)] at l1
   rw [Bool.false_or]
   rw [LP_go FF b248_0.eq_1]
   simp only [RB, RL, un, St.none, Nat.reduceEqDiff, Nat.reduceAdd, Nat.reduceMul, Nat.reduceMod, Nat.reduceLeDiff, Nat.reduceLT, Int.reduceLT, Int.reduceLE, Int.reduceEq, Int.reduceToNat, Int.reduceSub, Int.reduceNeg, Int.reduceAdd, ↓reduceIte, reduceCtorEq, pack, pid, parN, lid, chkK, apartV, Heap.none, c1, hx', eNd_rules, eNd_row, eTr_rules, eTr_row, zc, e2, n64, b1, b2, l1]
   exact h9
  ·rw [hf, if_pos rfl] at l1
   rw [Bool.true_or, if_pos rfl]
   rw [LP_go FF b248_0.eq_1]
   simp only [RB, RL, un, St.none, Nat.reduceEqDiff, Nat.reduceAdd, Nat.reduceMul, Nat.reduceMod, Nat.reduceLeDiff, Nat.reduceLT, Int.reduceLT, Int.reduceLE, Int.reduceEq, Int.reduceToNat, Int.reduceSub, Int.reduceNeg, Int.reduceAdd, ↓reduceIte, reduceCtorEq, pack, pid, parN, lid, chkK, apartV, Heap.none, c1, hx', eNd_rules, eNd_row, eTr_rules, eTr_row, zc, e2, n64, b1, b2, l1]
def fitB (m : RM) : Bool := !(decide (m.1 < 0) || decide (64 < m.1) || decide (64 < (m.2.length : Int)) || m.2.any bdT)
theorem fits_c {m : RM} (hts : m.2.length ≤ 100000) (ht : ∀ t ∈ m.2, t.length ≤ 100000) : R FF 248 [.agg (eM m)] = some (.b (fitB m)) := by
 obtain ⟨f, ts⟩ := m
 have hts : ts.length ≤ 100000 := hts
 have ht : ∀ t ∈ ts, t.length ≤ 100000 := ht
 have l0 := fits_l0 hts ht ts.length 0 (by omega)
 rw [zx, List.drop_zero] at l0
 have hb : fitB (f, ts) = !(decide (f < 0) || decide (64 < f) || decide (64 < (ts.length : Int)) || ts.any bdT) := rfl
 rw [hb]
 simp only [eM] at l0 ⊢
 by_cases b1 : f < 0
 ·rw [decide_eq_true b1]
  rw [R_go FF F248 c248.eq_1]
  simp only [RB, RL, un, St.none, Nat.reduceEqDiff, Nat.reduceAdd, Nat.reduceMul, Nat.reduceMod, Nat.reduceLeDiff, Nat.reduceLT, Int.reduceLT, Int.reduceLE, Int.reduceEq, Int.reduceToNat, Int.reduceSub, Int.reduceNeg, Int.reduceAdd, ↓reduceIte, reduceCtorEq, pack, pid, parN, lid, chkK, apartV, Heap.none, b1, eTr_rules, eTr_row, n64]
 by_cases b2 : 64 < f
 ·rw [decide_eq_true b2]
  rw [R_go FF F248 c248.eq_1]
  simp only [RB, RL, un, St.none, Nat.reduceEqDiff, Nat.reduceAdd, Nat.reduceMul, Nat.reduceMod, Nat.reduceLeDiff, Nat.reduceLT, Int.reduceLT, Int.reduceLE, Int.reduceEq, Int.reduceToNat, Int.reduceSub, Int.reduceNeg, Int.reduceAdd, ↓reduceIte, reduceCtorEq, pack, pid, parN, lid, chkK, apartV, Heap.none, b1, b2, eTr_rules, eTr_row, n64]
 by_cases b3 : 64 < (ts.length : Int)
 ·rw [decide_eq_true b3]
  rw [R_go FF F248 c248.eq_1]
  simp only [RB, RL, un, St.none, Nat.reduceEqDiff, Nat.reduceAdd, Nat.reduceMul, Nat.reduceMod, Nat.reduceLeDiff, Nat.reduceLT, Int.reduceLT, Int.reduceLE, Int.reduceEq, Int.reduceToNat, Int.reduceSub, Int.reduceNeg, Int.reduceAdd, ↓reduceIte, reduceCtorEq, pack, pid, parN, lid, chkK, apartV, Heap.none, b1, b2, b3, eTr_rules, eTr_row, n64]
 rw [decide_eq_false b1, decide_eq_false b2, decide_eq_false b3, Bool.false_or, Bool.false_or, Bool.false_or]
 cases hf : ts.any bdT
 ·rw [hf, if_neg (by decide)] at l0
  rw [R_go FF F248 c248.eq_1]
  simp only [RB, RL, un, St.none, Nat.reduceEqDiff, Nat.reduceAdd, Nat.reduceMul, Nat.reduceMod, Nat.reduceLeDiff, Nat.reduceLT, Int.reduceLT, Int.reduceLE, Int.reduceEq, Int.reduceToNat, Int.reduceSub, Int.reduceNeg, Int.reduceAdd, ↓reduceIte, reduceCtorEq, pack, pid, parN, lid, chkK, apartV, Heap.none, b1, b2, b3, eTr_rules, eTr_row, n64, l0]
 ·rw [hf, if_pos rfl] at l0
  rw [R_go FF F248 c248.eq_1]
  simp only [RB, RL, un, St.none, Nat.reduceEqDiff, Nat.reduceAdd, Nat.reduceMul, Nat.reduceMod, Nat.reduceLeDiff, Nat.reduceLT, Int.reduceLT, Int.reduceLE, Int.reduceEq, Int.reduceToNat, Int.reduceSub, Int.reduceNeg, Int.reduceAdd, ↓reduceIte, reduceCtorEq, pack, pid, parN, lid, chkK, apartV, Heap.none, b1, b2, b3, eTr_rules, eTr_row, n64, l0]
def bump (P : List Int) (n : RNd) : List Int := if n.leaf then P else
 (P.set n.lft.toNat (P.getD n.lft.toNat 0 + 1)).set n.rgt.toNat ((P.set n.lft.toNat (P.getD n.lft.toNat 0 + 1)).getD n.rgt.toNat 0 + 1)
def parL (t : List RNd) : List Int := t.foldl bump (zr t.length 0)
theorem bump_len (P : List Int) (n : RNd) : (bump P n).length = P.length := by
 unfold bump; split
 ·rfl
 ·rw [zE, zE]
theorem getD_set (P : List Int) (a b : Nat) (x : Int) : (P.set a x).getD b 0 = if a = b ∧ a < P.length then x else P.getD b 0 := by
 rw [za, za, List.getElem?_set]
 by_cases h : a = b
 ·subst h
  by_cases h2 : a < P.length
  ·rw [if_pos rfl, if_pos h2, if_pos ⟨rfl, h2⟩]; rfl
  ·rw [if_pos rfl, if_neg h2, if_neg (fun h => h2 h.2), List.getElem?_eq_none (by omega)]
 ·rw [if_neg h, if_neg (fun k => h k.1)]
def Bnd (P : List Int) (k : Int) : Prop := ∀ j, 0 ≤ P.getD j 0 ∧ P.getD j 0 ≤ k
theorem bump_bnd {P : List Int} {k : Int} (h : Bnd P k) (n : RNd) : Bnd (bump P n) (k + 2) := by
 intro j
 unfold bump
 split
 ·have := h j; omega
 ·have h1 : ∀ i, 0 ≤ (P.set n.lft.toNat (P.getD n.lft.toNat 0 + 1)).getD i 0 ∧ (P.set n.lft.toNat (P.getD n.lft.toNat 0 + 1)).getD i 0 ≤ k + 1 := by
   intro i
   rw [getD_set]
   have a := h i
   have b := h n.lft.toNat
   split <;> omega
  rw [getD_set]
  have a := h1 j
  have b := h1 n.rgt.toNat
  split <;> omega
theorem drop_foldT {β : Type} {g : β → RNd → β} {l : List RNd} {i : Nat} (o : β) (h : i < l.length) : (l.drop i).foldl g o = (l.drop (i + 1)).foldl g (g o (l.getD i dNd)) := by
 rw [List.drop_eq_getElem_cons h, List.foldl_cons, za, ze h]; rfl
theorem shape_l3 {t : List RNd} {f : Int} (ht : t.length ≤ 100000) (hr : t.any (bdR t.length f) = false) : ∀ (d i : Nat) (P : List Int), i + d = t.length → P.length = t.length → Bnd P (2 * (i : Int)) →
  LP FF [(4, 1), (0, 0), (18, 0), (19, 0), (20, 0)] [(0, 0), (4, 0)] b250_3 [.own true 1 (P.map n64), .l 14 (t.map eNd), .l 14 (t.map eNd), (AV.i .i64 ((t.length : Int))), (AV.i .i64 ((i : Int)))] = some (.exit 0, [.l 14 (t.map eNd), .l 1 (((t.drop i).foldl bump P).map n64)]) := by
 intro d
 induction d with
 | zero =>
  intro i P hi hP hB
  have c1 : ¬ (i : Int) < (t.length : Int) := by omega
  rw [zF (by omega), List.foldl_nil]
  rw [LP_go FF b250_3.eq_1]
  simp only [RB, RL, un, St.none, Nat.reduceEqDiff, Nat.reduceAdd, Nat.reduceMul, Nat.reduceMod, Nat.reduceLeDiff, Nat.reduceLT, Int.reduceLT, Int.reduceLE, Int.reduceEq, Int.reduceToNat, Int.reduceSub, Int.reduceNeg, Int.reduceAdd, ↓reduceIte, reduceCtorEq, pack, pid, parN, lid, chkK, apartV, Heap.none, c1, eNd_rules, eNd_row, zg]
 | succ d ih =>
  intro i P hi hP hB
  have hlt : i < t.length := by omega
  have c1 : (i : Int) < (t.length : Int) := by omega
  have e2 : IntKind.i64.wrap ((i : Int) + 1) = ((i + 1 : Nat) : Int) := w64succ (by omega)
  have hmem := getD_mem' dNd hlt
  have hr2 : bdR t.length f (t.getD i dNd) = false := by
   rw [List.any_eq_false] at hr
   simpa using hr _ hmem
  have h9 := ih (i + 1) (bump P (t.getD i dNd)) (by omega) (by rw [bump_len, hP]) (by
   have := bump_bnd hB (t.getD i dNd)
   rwa [show 2 * (i : Int) + 2 = 2 * ((i + 1 : Nat) : Int) by omega] at this)
  rw [drop_foldT P hlt]
  obtain ⟨x, hx⟩ : ∃ x, x = t.getD i dNd := ⟨_, rfl⟩
  rw [← hx] at hr2 h9 ⊢
  have hx' := hx.symm
  obtain ⟨xl, xf, xc, xa, xb, xm, xv, xw⟩ := x
  cases xl with
  | true =>
   rw [show bump P ⟨true, xf, xc, xa, xb, xm, xv, xw⟩ = P from rfl] at h9 ⊢
   rw [LP_go FF b250_3.eq_1]
   simp only [RB, RL, un, St.none, Nat.reduceEqDiff, Nat.reduceAdd, Nat.reduceMul, Nat.reduceMod, Nat.reduceLeDiff, Nat.reduceLT, Int.reduceLT, Int.reduceLE, Int.reduceEq, Int.reduceToNat, Int.reduceSub, Int.reduceNeg, Int.reduceAdd, ↓reduceIte, reduceCtorEq, pack, pid, parN, lid, chkK, apartV, Heap.none, c1, hx', eNd_rules, eNd_row, eNd, zc, e2, zg]
   exact h9
  | false =>
   have hr3 : (decide (xf < 0) || decide (f ≤ xf) || decide (xa < 1) || decide ((t.length : Int) ≤ xa) || decide (xb < 1) || decide ((t.length : Int) ≤ xb)) = false := hr2
   simp only [Bool.or_eq_false_iff, decide_eq_false_iff_not] at hr3
   have a1 : 0 ≤ xa := by omega
   have a2 : xa < (t.length : Int) := by omega
   have b1 : 0 ≤ xb := by omega
   have b2 : xb < (t.length : Int) := by omega
   have a3 : xa.toNat < t.length := by omega
   have b3 : xb.toNat < t.length := by omega
   have q1 := hB xa.toNat
   have w1 : IntKind.i64.wrap (P.getD xa.toNat 0 + 1) = P.getD xa.toNat 0 + 1 := w64 (by omega) (by omega)
   have eb : bump P ⟨false, xf, xc, xa, xb, xm, xv, xw⟩ = (P.set xa.toNat (P.getD xa.toNat 0 + 1)).set xb.toNat ((P.set xa.toNat (P.getD xa.toNat 0 + 1)).getD xb.toNat 0 + 1) := rfl
   have q2 : 0 ≤ (P.set xa.toNat (P.getD xa.toNat 0 + 1)).getD xb.toNat 0 ∧ (P.set xa.toNat (P.getD xa.toNat 0 + 1)).getD xb.toNat 0 ≤ 2 * (i : Int) + 1 := by
    rw [getD_set]
    have a := hB xb.toNat
    split <;> omega
   have w2 : IntKind.i64.wrap ((P.set xa.toNat (P.getD xa.toNat 0 + 1)).getD xb.toNat 0 + 1) = (P.set xa.toNat (P.getD xa.toNat 0 + 1)).getD xb.toNat 0 + 1 := w64 (by omega) (by omega)
   rw [eb] at h9 ⊢
   have hl1 : (P.set xa.toNat (P.getD xa.toNat 0 + 1)).length = t.length := by rw [zE, hP]
   generalize hP1 : P.set xa.toNat (P.getD xa.toNat 0 + 1) = P1 at *
   have hl2 : (P1.set xb.toNat (P1.getD xb.toNat 0 + 1)).length = t.length := by rw [zE, hl1]
   generalize hP2 : P1.set xb.toNat (P1.getD xb.toNat 0 + 1) = P2 at *
   have t2 : zI t.length P2 = P2 := zb (by omega)
   rw [LP_go FF b250_3.eq_1]
   simp only [RB, RL, un, St.none, Nat.reduceEqDiff, Nat.reduceAdd, Nat.reduceMul, Nat.reduceMod, Nat.reduceLeDiff, Nat.reduceLT, Int.reduceLT, Int.reduceLE, Int.reduceEq, Int.reduceToNat, Int.reduceSub, Int.reduceNeg, Int.reduceAdd, ↓reduceIte, reduceCtorEq, pack, pid, parN, lid, chkK, apartV, Heap.none, c1, hx', eNd_rules, eNd_row, eNd, zc, e2, a1, a2, b1, b2, a3, b3, hP, hl1, hl2, w1, w2, hP1, hP2, t2]
   exact h9
theorem shape_l2 {t : List RNd} {P : List Int} (ht : t.length ≤ 100000) (hP : P.length = t.length) : ∀ (d i : Nat), i + d = t.length →
  (∃ j, 0 < j ∧ j < t.length ∧ P.getD j 0 ≠ 1 ∧ LP FF [(0, 0), (42, 0), (43, 0), (44, 0)] [(0, 0), (2, 0), (3, 0)] b250_2 [.l 14 (t.map eNd), .l 1 (P.map n64), (AV.i .i64 ((t.length : Int))), (AV.i .i64 ((i : Int)))] = some (.ret, [.l 14 (t.map eNd), (AV.i .i64 ((j : Int))), (AV.i .i64 11)])) ∨
  ((∀ j, i ≤ j → j < t.length → 0 < j → P.getD j 0 = 1) ∧ LP FF [(0, 0), (42, 0), (43, 0), (44, 0)] [(0, 0), (2, 0), (3, 0)] b250_2 [.l 14 (t.map eNd), .l 1 (P.map n64), (AV.i .i64 ((t.length : Int))), (AV.i .i64 ((i : Int)))] = some (.exit 2, [.l 14 (t.map eNd), .junk, .junk])) := by
 intro d
 induction d with
 | zero =>
  intro i hi
  refine .inr ⟨fun j h1 h2 => by omega, ?_⟩
  have c1 : ¬ (i : Int) < (t.length : Int) := by omega
  rw [LP_go FF b250_2.eq_1]
  simp only [RB, RL, un, St.none, Nat.reduceEqDiff, Nat.reduceAdd, Nat.reduceMul, Nat.reduceMod, Nat.reduceLeDiff, Nat.reduceLT, Int.reduceLT, Int.reduceLE, Int.reduceEq, Int.reduceToNat, Int.reduceSub, Int.reduceNeg, Int.reduceAdd, ↓reduceIte, reduceCtorEq, pack, pid, parN, lid, chkK, apartV, Heap.none, c1, eNd_rules, eNd_row]
 | succ d ih =>
  intro i hi
  have hlt : i < t.length := by omega
  have c1 : (i : Int) < (t.length : Int) := by omega
  have c2 : i < t.length := hlt
  have e2 : IntKind.i64.wrap ((i : Int) + 1) = ((i + 1 : Nat) : Int) := w64succ (by omega)
  by_cases h0 : 0 < (i : Int)
  ·by_cases h1 : P.getD i 0 = 1
   ·have step : LP FF [(0, 0), (42, 0), (43, 0), (44, 0)] [(0, 0), (2, 0), (3, 0)] b250_2 [.l 14 (t.map eNd), .l 1 (P.map n64), (AV.i .i64 ((t.length : Int))), (AV.i .i64 ((i : Int)))] = LP FF [(0, 0), (42, 0), (43, 0), (44, 0)] [(0, 0), (2, 0), (3, 0)] b250_2 [.l 14 (t.map eNd), .l 1 (P.map n64), (AV.i .i64 ((t.length : Int))), (AV.i .i64 (((i + 1 : Nat) : Int)))] := by
     rw [LP_go FF b250_2.eq_1]
     simp only [RB, RL, un, St.none, Nat.reduceEqDiff, Nat.reduceAdd, Nat.reduceMul, Nat.reduceMod, Nat.reduceLeDiff, Nat.reduceLT, Int.reduceLT, Int.reduceLE, Int.reduceEq, Int.reduceToNat, Int.reduceSub, Int.reduceNeg, Int.reduceAdd, ↓reduceIte, reduceCtorEq, pack, pid, parN, lid, chkK, apartV, Heap.none, c1, c2, h0, h1, hP, eNd_rules, eNd_row, zc, e2]
    rw [step]
    rcases ih (i + 1) (by omega) with h9 | ⟨h8, h9⟩
    ·exact .inl h9
    ·exact .inr ⟨fun j a b c => by
      rcases Nat.eq_or_lt_of_le a with rfl | a
      ·exact h1
      ·exact h8 j a b c, h9⟩
   ·refine .inl ⟨i, by omega, hlt, h1, ?_⟩
    rw [LP_go FF b250_2.eq_1]
    simp only [RB, RL, un, St.none, Nat.reduceEqDiff, Nat.reduceAdd, Nat.reduceMul, Nat.reduceMod, Nat.reduceLeDiff, Nat.reduceLT, Int.reduceLT, Int.reduceLE, Int.reduceEq, Int.reduceToNat, Int.reduceSub, Int.reduceNeg, Int.reduceAdd, ↓reduceIte, reduceCtorEq, pack, pid, parN, lid, chkK, apartV, Heap.none, c1, c2, h0, h1, hP, eNd_rules, eNd_row, zc, e2]
  ·have step : LP FF [(0, 0), (42, 0), (43, 0), (44, 0)] [(0, 0), (2, 0), (3, 0)] b250_2 [.l 14 (t.map eNd), .l 1 (P.map n64), (AV.i .i64 ((t.length : Int))), (AV.i .i64 ((i : Int)))] = LP FF [(0, 0), (42, 0), (43, 0), (44, 0)] [(0, 0), (2, 0), (3, 0)] b250_2 [.l 14 (t.map eNd), .l 1 (P.map n64), (AV.i .i64 ((t.length : Int))), (AV.i .i64 (((i + 1 : Nat) : Int)))] := by
    rw [LP_go FF b250_2.eq_1]
    simp only [RB, RL, un, St.none, Nat.reduceEqDiff, Nat.reduceAdd, Nat.reduceMul, Nat.reduceMod, Nat.reduceLeDiff, Nat.reduceLT, Int.reduceLT, Int.reduceLE, Int.reduceEq, Int.reduceToNat, Int.reduceSub, Int.reduceNeg, Int.reduceAdd, ↓reduceIte, reduceCtorEq, pack, pid, parN, lid, chkK, apartV, Heap.none, c1, c2, h0, hP, eNd_rules, eNd_row, zc, e2]
   rw [step]
   rcases ih (i + 1) (by omega) with h9 | ⟨h8, h9⟩
   ·exact .inl h9
   ·exact .inr ⟨fun j a b c => h8 j (by omega) b c, h9⟩
def kids (n : RNd) : List Nat := if n.leaf then [] else [n.rgt.toNat, n.lft.toNat]
def cntN (j : Nat) (n : RNd) : Nat := if n.leaf then 0 else (if n.lft.toNat = j then 1 else 0) + (if n.rgt.toNat = j then 1 else 0)
def cnt (j : Nat) : List RNd → Nat
 | [] => 0
 | n :: l => cntN j n + cnt j l
theorem bump_cnt {P : List Int} {n : RNd} (hn : n.leaf = false → n.lft.toNat < P.length ∧ n.rgt.toNat < P.length) (j : Nat) : (bump P n).getD j 0 = P.getD j 0 + (cntN j n : Nat) := by
 unfold bump cntN
 cases hl : n.leaf with
 | true => simp
 | false =>
  obtain ⟨h1, h2⟩ := hn hl
  simp only [Bool.false_eq_true, if_false]
  rw [getD_set, getD_set, getD_set, zE]
  by_cases e1 : n.lft.toNat = j <;> by_cases e2 : n.rgt.toNat = j
  ·have e3 : n.lft.toNat = n.rgt.toNat := by omega
   rw [if_pos ⟨e2, h2⟩, if_pos ⟨e3, h1⟩, if_pos e1, if_pos e2, e1]; omega
  ·rw [if_neg (fun h => e2 h.1), if_pos ⟨e1, h1⟩, if_pos e1, if_neg e2, e1]; omega
  ·have e3 : ¬ n.lft.toNat = n.rgt.toNat := by omega
   rw [if_pos ⟨e2, h2⟩, if_neg (fun h => e3 h.1), if_neg e1, if_pos e2, e2]; omega
  ·rw [if_neg (fun h => e2 h.1), if_neg (fun h => e1 h.1), if_neg e1, if_neg e2]; omega
theorem foldl_cnt : ∀ (l : List RNd) (P : List Int), (∀ n ∈ l, n.leaf = false → n.lft.toNat < P.length ∧ n.rgt.toNat < P.length) → ∀ j, (l.foldl bump P).getD j 0 = P.getD j 0 + (cnt j l : Nat) := by
 intro l
 induction l with
 | nil => intro P _ j; show P.getD j 0 = P.getD j 0 + ((0 : Nat) : Int); omega
 | cons n l ih =>
  intro P h j
  have h1 := bump_cnt (h n (zn ..)) j
  have h2 := ih (bump P n) (fun m hm => by rw [bump_len]; exact h m (zo _ hm)) j
  rw [List.foldl_cons, h2, h1]
  show _ = _ + ((cntN j n + cnt j l : Nat) : Int)
  omega
theorem parL_cnt {t : List RNd} (h : ∀ n ∈ t, n.leaf = false → n.lft.toNat < t.length ∧ n.rgt.toNat < t.length) (j : Nat) : (parL t).getD j 0 = (cnt j t : Nat) := by
 unfold parL
 rw [foldl_cnt t _ (fun n hn hl => by rw [zy]; exact h n hn hl)]
 have e : (zr t.length (0 : Int)).getD j 0 = 0 := by
  rw [za, List.getElem?_replicate]
  split <;> rfl
 rw [e]; omega
theorem cntN_kids {j : Nat} {n : RNd} (h : j ∈ kids n) : 1 ≤ cntN j n := by
 unfold kids at h
 unfold cntN
 split at h
 ·exact (zK h).elim
 ·rename_i hl
  rw [if_neg hl]
  simp only [List.mem_cons, zK, or_false] at h
  rcases h with rfl | rfl <;> simp
theorem cnt_one : ∀ (l : List RNd) (i j : Nat), i < l.length → j ∈ kids (l.getD i dNd) → 1 ≤ cnt j l := by
 intro l
 induction l with
 | nil => intro i j h; exact absurd h (Nat.not_lt_zero _)
 | cons n l ih =>
  intro i j hi hk
  show 1 ≤ cntN j n + cnt j l
  cases i with
  | zero => have := cntN_kids (show j ∈ kids n from hk); omega
  | succ i => have := ih i j (by rw [zt] at hi; omega) hk; omega
theorem cnt_two : ∀ (l : List RNd) (i i' j : Nat), i < i' → i' < l.length → j ∈ kids (l.getD i dNd) → j ∈ kids (l.getD i' dNd) → 2 ≤ cnt j l := by
 intro l
 induction l with
 | nil => intro i i' j _ h; exact absurd h (Nat.not_lt_zero _)
 | cons n l ih =>
  intro i i' j hlt hi hk hk'
  show 2 ≤ cntN j n + cnt j l
  cases i' with
  | zero => omega
  | succ i' =>
   rw [zt] at hi
   cases i with
   | zero =>
    have h1 := cntN_kids (show j ∈ kids n from hk)
    have h2 := cnt_one l i' j (by omega) hk'
    omega
   | succ i => have := ih i i' j (by omega) (by omega) hk hk'; omega
theorem cnt_dup : ∀ (l : List RNd) (i : Nat), i < l.length → (l.getD i dNd).leaf = false → (l.getD i dNd).lft.toNat = (l.getD i dNd).rgt.toNat → 2 ≤ cnt (l.getD i dNd).lft.toNat l := by
 intro l
 induction l with
 | nil => intro i h; exact absurd h (Nat.not_lt_zero _)
 | cons n l ih =>
  intro i hi hl he
  cases i with
  | zero =>
   have hl : n.leaf = false := hl
   have he : n.lft.toNat = n.rgt.toNat := he
   show 2 ≤ cntN n.lft.toNat n + cnt n.lft.toNat l
   unfold cntN
   rw [hl, if_neg (by decide), if_pos rfl, if_pos he.symm]; omega
  | succ i =>
   have := ih i (by rw [zt] at hi; omega) hl he
   show 2 ≤ cntN (l.getD i dNd).lft.toNat n + cnt (l.getD i dNd).lft.toNat l
   omega
structure Par (t : List RNd) : Prop where
 rng : ∀ i, i < t.length → ∀ c ∈ kids (t.getD i dNd), 1 ≤ c ∧ c < t.length
 one : ∀ j, 0 < j → j < t.length → cnt j t = 1
theorem Par.uniq {t : List RNd} (h : Par t) {i i' c : Nat} (hi : i < t.length) (hi' : i' < t.length) (hc : c ∈ kids (t.getD i dNd)) (hc' : c ∈ kids (t.getD i' dNd)) : i = i' := by
 obtain ⟨r1, r2⟩ := h.rng i hi c hc
 have h1 := h.one c (by omega) r2
 rcases Nat.lt_trichotomy i i' with hl | hl | hl
 ·have := cnt_two t i i' c hl hi' hc hc'; omega
 ·exact hl
 ·have := cnt_two t i' i c hl hi hc' hc; omega
theorem Par.nd {t : List RNd} (h : Par t) {i : Nat} (hi : i < t.length) : (kids (t.getD i dNd)).Nodup := by
 have hr := h.rng i hi
 have hd := cnt_dup t i hi
 unfold kids at *
 cases hl : (t.getD i dNd).leaf with
 | true => simp
 | false =>
  rw [hl] at hr hd
  simp only [Bool.false_eq_true, if_false] at hr ⊢
  have hne : (t.getD i dNd).rgt.toNat ≠ (t.getD i dNd).lft.toNat := fun e => by
   have h2 := hd rfl e.symm
   have r := hr (t.getD i dNd).lft.toNat (by simp)
   have := h.one _ (by omega) r.2
   omega
  exact List.nodup_cons.2 ⟨fun hm => hne (List.mem_singleton.1 hm), List.nodup_cons.2 ⟨zK, List.nodup_nil⟩⟩
def dfs (t : List RNd) : Nat → List Nat → Option (List Nat)
 | _, [] => some []
 | 0, _ :: _ => none
 | k + 1, a :: S => (dfs t k (kids (t.getD a dNd) ++ S)).map (a :: ·)
theorem nodup_len : ∀ (n : Nat) {l : List Nat}, l.Nodup → (∀ x ∈ l, x < n) → l.length ≤ n := by
 intro n
 induction n with
 | zero =>
  intro l _ hl
  cases l with
  | nil => exact zk _
  | cons a l => exact absurd (hl a (zn ..)) (Nat.not_lt_zero _)
 | succ n ih =>
  intro l h hl
  by_cases hm : n ∈ l
  ·have h1 := ih (h.erase n) (fun x hx => by
    have h2 := (h.mem_erase_iff).1 hx
    have h3 := hl x h2.2
    omega)
   rw [List.length_erase_of_mem hm] at h1
   omega
  ·have h1 := ih h (fun x hx => by
    have h3 := hl x hx
    have h4 : x ≠ n := fun e => hm (e ▸ hx)
    omega)
   omega
theorem dfs_some {t : List RNd} (h : Par t) : ∀ (k : Nat) (V S : List Nat), (V ++ S).Nodup → (∀ c ∈ V ++ S, c < t.length) → (∀ c ∈ V ++ S, c = 0 ∨ ∃ p ∈ V, c ∈ kids (t.getD p dNd)) → t.length ≤ V.length + k →
  ∃ vis, dfs t k S = some vis ∧ (V ++ vis).Nodup ∧ (∀ c ∈ vis, c < t.length) ∧ ∀ c ∈ S, c ∈ vis := by
 intro k
 induction k with
 | zero =>
  intro V S hnd hlt hp hk
  cases S with
  | nil => exact ⟨[], rfl, hnd, fun _ h => (zK h).elim, fun _ h => (zK h).elim⟩
  | cons a S =>
   have := nodup_len t.length hnd hlt
   rw [zi, zt] at this
   omega
 | succ k ih =>
  intro V S hnd hlt hp hk
  cases S with
  | nil => exact ⟨[], rfl, hnd, fun _ h => (zK h).elim, fun _ h => (zK h).elim⟩
  | cons a S =>
   have ha : a < t.length := hlt a (by simp)
   have hk1 : ∀ c ∈ kids (t.getD a dNd), c ∉ V ++ a :: S := by
    intro c hc hm
    have hr := h.rng a ha c hc
    rcases hp c hm with h0 | ⟨p, hpV, hpc⟩
    ·omega
    ·have hpl : p < t.length := hlt p (by simp [hpV])
     have e := h.uniq hpl ha hpc hc
     subst e
     have := (List.nodup_append.1 hnd).2.2 p hpV p (zn ..)
     exact this rfl
   have hnd2 : (V ++ [a] ++ (kids (t.getD a dNd) ++ S)).Nodup := by
    rw [List.nodup_append] at hnd ⊢
    obtain ⟨n1, n2, n3⟩ := hnd
    obtain ⟨n4, n5⟩ := List.nodup_cons.1 n2
    refine ⟨?_, ?_, ?_⟩
    ·rw [List.nodup_append]
     exact ⟨n1, by simp, fun x hx y hy => by rw [List.mem_singleton.1 hy]; exact n3 x hx a (zn ..)⟩
    ·rw [List.nodup_append]
     exact ⟨h.nd ha, n5, fun x hx y hy e => hk1 x hx (by rw [e]; simp [hy])⟩
    ·intro x hx y hy e
     subst e
     rcases List.mem_append.1 hy with hy | hy
     ·rcases List.mem_append.1 hx with hx | hx
      ·exact hk1 x hy (by simp [hx])
      ·rw [List.mem_singleton.1 hx] at hy; exact hk1 a hy (by simp)
     ·rcases List.mem_append.1 hx with hx | hx
      ·exact n3 x hx x (zo _ hy) rfl
      ·rw [List.mem_singleton.1 hx] at hy; exact n4 hy
   obtain ⟨vis, v1, v2, v3, v4⟩ := ih (V ++ [a]) (kids (t.getD a dNd) ++ S) hnd2 (fun c hc => by
    simp only [List.mem_append, List.mem_singleton] at hc
    rcases hc with (hc | hc) | (hc | hc)
    ·exact hlt c (by simp [hc])
    ·rw [hc]; exact ha
    ·exact (h.rng a ha c hc).2
    ·exact hlt c (by simp [hc])) (fun c hc => by
    simp only [List.mem_append, List.mem_singleton] at hc
    rcases hc with (hc | hc) | (hc | hc)
    ·rcases hp c (by simp [hc]) with h0 | ⟨p, hpV, hpc⟩
     ·exact .inl h0
     ·exact .inr ⟨p, by simp [hpV], hpc⟩
    ·rcases hp c (by simp [hc]) with h0 | ⟨p, hpV, hpc⟩
     ·exact .inl h0
     ·exact .inr ⟨p, by simp [hpV], hpc⟩
    ·exact .inr ⟨a, by simp, hc⟩
    ·rcases hp c (by simp [hc]) with h0 | ⟨p, hpV, hpc⟩
     ·exact .inl h0
     ·exact .inr ⟨p, by simp [hpV], hpc⟩) (by rw [zi, List.length_singleton]; omega)
   refine ⟨a :: vis, by rw [dfs, v1]; rfl, by rwa [List.append_assoc] at v2, fun c hc => ?_, fun c hc => ?_⟩
   ·rcases List.mem_cons.1 hc with rfl | hc
    ·exact ha
    ·exact v3 c hc
   ·rcases List.mem_cons.1 hc with rfl | hc
    ·exact zn ..
    ·exact zo _ (v4 c (List.mem_append_right _ hc))
def eB (b : Bool) : List AV := [.b b]
theorem eB_rules : (∀ x, (eB x).length = 1) ∧ (∀ h x, (eB x).map (tellC h) = eB x) ∧ (∀ h x, (eB x).map (tell0 h) = eB x) ∧ (∀ h x, (eB x).flatMap (refC h) = []) ∧ (∀ x, (eB x).flatMap ref0 = []) ∧
  (∀ x, ldC false 1 0 (eB x) = some (.b x)) := by
 refine ⟨?_, ?_, ?_, ?_, ?_, ?_⟩ <;> intros <;> rfl
theorem eB_row : type_of% (row_rules eB false 1 (fun _ => rfl) (fun _ _ => rfl)) := row_rules eB false 1 (fun _ => rfl) (fun _ _ => rfl)
theorem shape_l1 {t : List RNd} (ht : t.length ≤ 100000) (hp : Par t) : ∀ (k : Nat) (S : List Nat) (seen : List Bool) (vis : List Nat), dfs t k S = some vis → (∀ c ∈ S, c < t.length) → seen.length = t.length →
  (∀ c ∈ vis, c < t.length) → S.length + k ≤ 1000000 →
  LP FF [(9, 1), (10, 1), (0, 0)] [(9, 0)] b250_1 [.own true 1 (seen.map eB), .own true 1 (S.reverse.map eX), .l 14 (t.map eNd)] = some (.exit 4, [.l 1 ((vis.foldl (fun s a => s.set a true) seen).map eB)]) := by
 intro k
 induction k with
 | zero =>
  intro S seen vis hd hS hs hv hk
  cases S with
  | nil =>
   cases hd
   rw [List.foldl_nil]
   rw [LP_go FF b250_1.eq_1]
   simp only [RB, RL, un, St.none, Nat.reduceEqDiff, Nat.reduceAdd, Nat.reduceMul, Nat.reduceMod, Nat.reduceLeDiff, Nat.reduceLT, Int.reduceLT, Int.reduceLE, Int.reduceEq, Int.reduceToNat, Int.reduceSub, Int.reduceNeg, Int.reduceAdd, ↓reduceIte, reduceCtorEq, pack, pid, parN, lid, chkK, apartV, Heap.none, eB_rules, eB_row, eX_rules, eX_row, zg, List.reverse_nil]
  | cons a S => cases hd
 | succ k ih =>
  intro S seen vis hd hS hs hv hk
  cases S with
  | nil =>
   cases hd
   rw [List.foldl_nil]
   rw [LP_go FF b250_1.eq_1]
   simp only [RB, RL, un, St.none, Nat.reduceEqDiff, Nat.reduceAdd, Nat.reduceMul, Nat.reduceMod, Nat.reduceLeDiff, Nat.reduceLT, Int.reduceLT, Int.reduceLE, Int.reduceEq, Int.reduceToNat, Int.reduceSub, Int.reduceNeg, Int.reduceAdd, ↓reduceIte, reduceCtorEq, pack, pid, parN, lid, chkK, apartV, Heap.none, eB_rules, eB_row, eX_rules, eX_row, zg, List.reverse_nil]
  | cons a S =>
   have ha : a < t.length := hS a (zn ..)
   rw [dfs] at hd
   obtain ⟨vis', hd', rfl⟩ := Option.map_eq_some_iff.1 hd
   have hkl : (kids (t.getD a dNd)).length ≤ 2 := by unfold kids; split <;> simp
   have hv' : ∀ c ∈ vis', c < t.length := fun c hc => hv c (zo _ hc)
   have h9 := ih (kids (t.getD a dNd) ++ S) (seen.set a true) vis' hd' (fun c hc => by
    rcases List.mem_append.1 hc with hc | hc
    ·exact (hp.rng a ha c hc).2
    ·exact hS c (zo _ hc)) (by rw [zE, hs]) hv' (by
     rw [zi]; rw [zt] at hk; omega)
   rw [List.foldl_cons, List.reverse_cons]
   rw [List.reverse_append] at h9
   have hrl : S.reverse.length = S.length := List.length_reverse ..
   rw [zt] at hk
   generalize S.reverse = Q at *
   have hQ : Q.length = S.length := hrl
   have hl1 : (Q ++ [a]).length = Q.length + 1 := by rw [zi, List.length_singleton]
   have hg : (Q ++ [a]).getD Q.length 0 = a := by rw [za, List.getElem?_append_right (zk _), Nat.sub_self]; rfl
   have mt : zI Q.length (Q ++ [a]) = Q := List.take_left
   have c0 : 0 < ((Q.length + 1 : Nat) : Int) := by omega
   have e1 : IntKind.i64.wrap (((Q.length + 1 : Nat) : Int) - 1) = (Q.length : Int) := by rw [w64 (by omega) (by omega)]; omega
   have c1 : (Q.length : Int) < ((Q.length + 1 : Nat) : Int) := by omega
   have c2 : Q.length < Q.length + 1 := by omega
   have c3 : (Q.length : Int) ≤ ((Q.length + 1 : Nat) : Int) := by omega
   have c4 : Q.length ≤ Q.length + 1 := by omega
   have d1 : (a : Int) < (t.length : Int) := by omega
   have hss : (seen.set a true).length = t.length := by rw [zE, hs]
   have hpc : putC 1 (List.map eB seen) a 0 [AV.b true] = List.map eB (seen.set a true) := eB_row.2.2.2.1 seen a true
   have hst : zI t.length (seen.set a true) = seen.set a true := zb (by omega)
   generalize hsn : seen.set a true = seen' at *
   have hrn := hp.rng a ha
   obtain ⟨x, hx⟩ : ∃ x, x = t.getD a dNd := ⟨_, rfl⟩
   rw [← hx] at h9 hkl hrn
   have hx' := hx.symm
   obtain ⟨xl, xf, xc, xa, xb, xm, xv, xw⟩ := x
   cases xl with
   | true =>
    rw [show kids ⟨true, xf, xc, xa, xb, xm, xv, xw⟩ = [] from rfl, List.reverse_nil, List.append_nil] at h9
    rw [LP_go FF b250_1.eq_1]
    simp only [RB, RL, un, St.none, Nat.reduceEqDiff, Nat.reduceAdd, Nat.reduceMul, Nat.reduceMod, Nat.reduceLeDiff, Nat.reduceLT, Int.reduceLT, Int.reduceLE, Int.reduceEq, Int.reduceToNat, Int.reduceSub, Int.reduceNeg, Int.reduceAdd, ↓reduceIte, reduceCtorEq, pack, pid, parN, lid, chkK, apartV, Heap.none, eB_rules, eB_row, eX_rules, eX_row, eNd_rules, eNd_row, eNd, hx', zg, hl1, hg, mt, c0, e1, c1, c2, c3, c4, d1, ha, hs, hpc, hst, hss, zc, Int.le_refl]
    exact h9
   | false =>
    have r1 : 1 ≤ xb.toNat ∧ xb.toNat < t.length := hrn xb.toNat (by show _ ∈ [xb.toNat, xa.toNat]; simp)
    have r2 : 1 ≤ xa.toNat ∧ xa.toNat < t.length := hrn xa.toNat (by show _ ∈ [xb.toNat, xa.toNat]; simp)
    obtain ⟨p, rfl⟩ : ∃ p : Nat, xa = p := ⟨xa.toNat, by omega⟩
    obtain ⟨q, rfl⟩ : ∃ q : Nat, xb = q := ⟨xb.toNat, by omega⟩
    rw [show (kids ⟨false, xf, xc, (p : Int), (q : Int), xm, xv, xw⟩).reverse = [p, q] from rfl] at h9
    have m1 : List.map eX Q ++ [[AV.i .i64 (p : Int)], [AV.i .i64 (q : Int)]] = List.map eX (Q ++ [p, q]) := by rw [List.map_append]; rfl
    have m2 : zI (Q.length + 2) (Q ++ [p, q]) = Q ++ [p, q] := zb (by rw [zi]; exact zk _)
    have b2 : (Q.length + 2) * 8 ≤ 140737488355328 := by omega
    rw [LP_go FF b250_1.eq_1]
    simp only [RB, RL, un, St.none, Nat.reduceEqDiff, Nat.reduceAdd, Nat.reduceMul, Nat.reduceMod, Nat.reduceLeDiff, Nat.reduceLT, Int.reduceLT, Int.reduceLE, Int.reduceEq, Int.reduceToNat, Int.reduceSub, Int.reduceNeg, Int.reduceAdd, ↓reduceIte, reduceCtorEq, pack, pid, parN, lid, chkK, apartV, Heap.none, eB_rules, eB_row, eX_rules, eX_row, eNd_rules, eNd_row, eNd, hx', zg, hl1, hg, mt, c0, e1, c1, c2, c3, c4, d1, ha, hs, hpc, hst, hss, zc, Int.le_refl, n64, m1, m2, b2]
    exact h9
theorem marks (vis : List Nat) : ∀ (s : List Bool) (j : Nat), (vis.foldl (fun s a => s.set a true) s).length = s.length ∧ ((vis.foldl (fun s a => s.set a true) s).getD j false = true ↔ s.getD j false = true ∨ (j ∈ vis ∧ j < s.length)) := by
 induction vis with
 | nil => intro s j; exact ⟨rfl, ⟨.inl, fun h => h.elim id fun h => (zK h.1).elim⟩⟩
 | cons a vis ih =>
  intro s j
  obtain ⟨h1, h2⟩ := ih (s.set a true) j
  rw [zE] at h1 h2
  refine ⟨h1, ?_⟩
  rw [List.foldl_cons, h2]
  have e : (s.set a true).getD j false = true ↔ s.getD j false = true ∨ (j = a ∧ j < s.length) := by
   rw [za, za, List.getElem?_set]
   by_cases h : a = j
   ·subst h
    by_cases h3 : a < s.length
    ·rw [if_pos rfl, if_pos h3]; simp [h3]
    ·rw [if_pos rfl, if_neg h3, List.getElem?_eq_none (by omega)]; simp [h3]
   ·rw [if_neg h]
    constructor
    ·exact .inl
    ·rintro (k | k)
     ·exact k
     ·exact (h k.1.symm).elim
  rw [e, List.mem_cons]
  constructor
  ·rintro ((k | k) | k)
   ·exact .inl k
   ·exact .inr ⟨.inl k.1, k.2⟩
   ·exact .inr ⟨.inr k.1, k.2⟩
  ·rintro (k | ⟨k | k, k2⟩)
   ·exact .inl (.inl k)
   ·exact .inl (.inr ⟨k, k2⟩)
   ·exact .inr ⟨k, k2⟩
theorem shape_l0 {s : List Bool} (hs : s.length ≤ 100000) : ∀ (d i : Nat), i + d = s.length →
  (∃ j, j < s.length ∧ s.getD j false = false ∧ LP FF [(92, 0), (93, 0), (94, 0)] [(2, 0), (3, 0)] b250_0 [.l 1 (s.map eB), (AV.i .i64 ((s.length : Int))), (AV.i .i64 ((i : Int)))] = some (.ret, [(AV.i .i64 ((j : Int))), (AV.i .i64 11)])) ∨
  ((∀ j, i ≤ j → j < s.length → s.getD j false = true) ∧ LP FF [(92, 0), (93, 0), (94, 0)] [(2, 0), (3, 0)] b250_0 [.l 1 (s.map eB), (AV.i .i64 ((s.length : Int))), (AV.i .i64 ((i : Int)))] = some (.exit 6, [.junk, .junk])) := by
 intro d
 induction d with
 | zero =>
  intro i hi
  refine .inr ⟨fun j h1 h2 => by omega, ?_⟩
  have c1 : ¬ (i : Int) < (s.length : Int) := by omega
  rw [LP_go FF b250_0.eq_1]
  simp only [RB, RL, un, St.none, Nat.reduceEqDiff, Nat.reduceAdd, Nat.reduceMul, Nat.reduceMod, Nat.reduceLeDiff, Nat.reduceLT, Int.reduceLT, Int.reduceLE, Int.reduceEq, Int.reduceToNat, Int.reduceSub, Int.reduceNeg, Int.reduceAdd, ↓reduceIte, reduceCtorEq, pack, pid, parN, lid, chkK, apartV, Heap.none, c1]
 | succ d ih =>
  intro i hi
  have hlt : i < s.length := by omega
  have c1 : (i : Int) < (s.length : Int) := by omega
  have e2 : IntKind.i64.wrap ((i : Int) + 1) = ((i + 1 : Nat) : Int) := w64succ (by omega)
  cases h1 : s.getD i false with
  | true =>
   have step : LP FF [(92, 0), (93, 0), (94, 0)] [(2, 0), (3, 0)] b250_0 [.l 1 (s.map eB), (AV.i .i64 ((s.length : Int))), (AV.i .i64 ((i : Int)))] = LP FF [(92, 0), (93, 0), (94, 0)] [(2, 0), (3, 0)] b250_0 [.l 1 (s.map eB), (AV.i .i64 ((s.length : Int))), (AV.i .i64 (((i + 1 : Nat) : Int)))] := by
    rw [LP_go FF b250_0.eq_1]
    simp only [RB, RL, un, St.none, Nat.reduceEqDiff, Nat.reduceAdd, Nat.reduceMul, Nat.reduceMod, Nat.reduceLeDiff, Nat.reduceLT, Int.reduceLT, Int.reduceLE, Int.reduceEq, Int.reduceToNat, Int.reduceSub, Int.reduceNeg, Int.reduceAdd, ↓reduceIte, reduceCtorEq, pack, pid, parN, lid, chkK, apartV, Heap.none, c1, h1, eB_rules, eB_row, zc, e2]
   rw [step]
   rcases ih (i + 1) (by omega) with h9 | ⟨h8, h9⟩
   ·exact .inl h9
   ·exact .inr ⟨fun j a b => by
     rcases Nat.eq_or_lt_of_le a with rfl | a
     ·exact h1
     ·exact h8 j a b, h9⟩
  | false =>
   refine .inl ⟨i, hlt, h1, ?_⟩
   rw [LP_go FF b250_0.eq_1]
   simp only [RB, RL, un, St.none, Nat.reduceEqDiff, Nat.reduceAdd, Nat.reduceMul, Nat.reduceMod, Nat.reduceLeDiff, Nat.reduceLT, Int.reduceLT, Int.reduceLE, Int.reduceEq, Int.reduceToNat, Int.reduceSub, Int.reduceNeg, Int.reduceAdd, ↓reduceIte, reduceCtorEq, pack, pid, parN, lid, chkK, apartV, Heap.none, c1, h1, eB_rules, eB_row, zc, e2]
structure Shp (t : List RNd) : Prop where
 par : Par t
 all : ∃ vis, dfs t t.length [0] = some vis ∧ ∀ j, j < t.length → j ∈ vis
theorem rng_of {t : List RNd} {f : Int} (hr : t.any (bdR t.length f) = false) {n : RNd} (hn : n ∈ t) (hl : n.leaf = false) : 0 ≤ n.ft ∧ n.ft < f ∧ 1 ≤ n.lft ∧ n.lft < (t.length : Int) ∧ 1 ≤ n.rgt ∧ n.rgt < (t.length : Int) := by
 rw [List.any_eq_false] at hr
 have h := hr n hn
 unfold bdR at h
 rw [hl] at h
 simp only [Bool.not_false, Bool.true_and, Bool.or_eq_true, decide_eq_true_eq, not_or] at h
 omega
theorem kids_rng {t : List RNd} {f : Int} (hr : t.any (bdR t.length f) = false) : ∀ i, i < t.length → ∀ c ∈ kids (t.getD i dNd), 1 ≤ c ∧ c < t.length := by
 intro i hi c hc
 unfold kids at hc
 split at hc
 ·exact (zK hc).elim
 ·rename_i hl
  have hl' : (t.getD i dNd).leaf = false := by simpa using hl
  have h := rng_of hr (getD_mem' dNd hi) hl'
  simp only [List.mem_cons, zK, or_false] at hc
  rcases hc with rfl | rfl <;> omega
theorem shape_c {t : List RNd} {f : Int} (h1t : 1 ≤ t.length) (ht : t.length ≤ 100000) (hr : t.any (bdR t.length f) = false) : ∃ i e : Int, R FF 250 [.l 14 (t.map eNd)] = some (.tup [(AV.i .i64 i), (AV.i .i64 e)]) ∧ ((Shp t ∧ i = 0 ∧ e = 0) ∨ (¬ Shp t ∧ e = 11)) := by
 have l3 := shape_l3 ht hr t.length 0 (zr t.length 0) (by omega) (zy ..) (fun j => by
  rw [za, List.getElem?_replicate]
  split <;> simp)
 rw [zx, List.drop_zero] at l3
 change LP FF [(4, 1), (0, 0), (18, 0), (19, 0), (20, 0)] [(0, 0), (4, 0)] b250_3 _ = some (Ex.exit 0, [AV.l 14 (t.map eNd), AV.l 1 ((parL t).map n64)]) at l3
 have hpl : (parL t).length = t.length := by
  have : ∀ (l : List RNd) (P : List Int), (l.foldl bump P).length = P.length := by
   intro l
   induction l with
   | nil => intro P; rfl
   | cons n l ih => intro P; rw [List.foldl_cons, ih, bump_len]
  unfold parL; rw [this, zy]
 have hpc := parL_cnt (t := t) (fun n hn hl => by have := rng_of hr hn hl; omega)
 have l2 := shape_l2 ht hpl t.length 0 (by omega)
 rw [zx] at l2
 have c0 : (0 : Int) ≤ (t.length : Int) := by omega
 have b1 : t.length * 8 ≤ 281474976710656 := by omega
 have b2 : t.length * 1 ≤ 281474976710656 := by omega
 have b3 : t.length ≤ 281474976710656 := by omega
 have tr1 : zI t.length (zr t.length (0 : Int)) = zr t.length 0 := zb (by rw [zy]; exact zk _)
 have tr2 : zI t.length (zr t.length false) = zr t.length false := zb (by rw [zy]; exact zk _)
 have rB : ∀ n, zr n [AV.b false] = (zr n false).map eB := fun n => by rw [List.map_replicate]; rfl
 rcases l2 with ⟨j, j0, j1, j2, l2⟩ | ⟨h2, l2⟩
 ·refine ⟨j, 11, ?_, .inr ⟨fun h => ?_, rfl⟩⟩
  ·generalize parL t = P at *
   rw [R_go FF F250 c250.eq_1]
   simp only [RB, RL, un, St.none, Nat.reduceEqDiff, Nat.reduceAdd, Nat.reduceMul, Nat.reduceMod, Nat.reduceLeDiff, Nat.reduceLT, Int.reduceLT, Int.reduceLE, Int.reduceEq, Int.reduceToNat, Int.reduceSub, Int.reduceNeg, Int.reduceAdd, ↓reduceIte, reduceCtorEq, pack, pid, parN, lid, chkK, apartV, Heap.none, tr1, tr2, l3, l2, c0, b1, b2, b3, hpl, eNd_rules, eNd_row, n64, Int.toNat_natCast]
  ·rw [hpc, h.par.one j j0 j1] at j2
   exact j2 rfl
 ·have hpar : Par t := ⟨kids_rng hr, fun j j0 j1 => by
   have := h2 j (Nat.zero_le _) j1 j0
   rw [hpc] at this
   omega⟩
  obtain ⟨vis, v1, v2, v3, v4⟩ := dfs_some hpar t.length [] [0] (by simp) (fun c hc => by
   rw [List.nil_append, List.mem_singleton] at hc; omega) (fun c hc => by
   rw [List.nil_append, List.mem_singleton] at hc; exact .inl hc) (by simp)
  have l1 := shape_l1 ht hpar t.length [0] (zr t.length false) vis v1 (fun c hc => by
   rw [List.mem_singleton] at hc; omega) (zy ..) v3 (by rw [List.length_singleton]; omega)
  have hm := marks vis (zr t.length false)
  have hrf : ∀ j, (zr t.length false).getD j false = false := fun j => by
   rw [za, List.getElem?_replicate]; split <;> rfl
  have hml : (vis.foldl (fun s a => s.set a true) (zr t.length false)).length = t.length := by rw [(hm 0).1, zy]
  have l0 := shape_l0 (s := vis.foldl (fun s a => s.set a true) (zr t.length false)) (by omega) _ 0 (zG _)
  rw [hml, zx] at l0
  have e10 : List.map eX [0].reverse = [[AV.i .i64 0]] := rfl
  rw [e10] at l1
  have hz : vis.foldl (fun s a => s.set a true) (zr t.length false) = vis.foldl (fun s a => s.set a true) (zr t.length false) := rfl
  rcases l0 with ⟨j, j1, j2, l0⟩ | ⟨h0, l0⟩
  ·refine ⟨j, 11, ?_, .inr ⟨fun h => ?_, rfl⟩⟩
   ·generalize vis.foldl (fun s a => s.set a true) (zr t.length false) = M at *
    generalize parL t = P at *
    rw [R_go FF F250 c250.eq_1]
    simp only [RB, RL, un, St.none, Nat.reduceEqDiff, Nat.reduceAdd, Nat.reduceMul, Nat.reduceMod, Nat.reduceLeDiff, Nat.reduceLT, Int.reduceLT, Int.reduceLE, Int.reduceEq, Int.reduceToNat, Int.reduceSub, Int.reduceNeg, Int.reduceAdd, ↓reduceIte, reduceCtorEq, pack, pid, parN, lid, chkK, apartV, Heap.none, tr1, tr2, l3, l2, l1, l0, c0, b1, b2, b3, hpl, hml, rB, eNd_rules, eNd_row, eB_rules, eB_row, eX_rules, eX_row, n64, Int.toNat_natCast]
   ·obtain ⟨vis', w1, w2⟩ := h.all
    rw [v1] at w1
    cases w1
    have h5 := (hm j).2.2 (.inr ⟨w2 j j1, by rw [zy]; exact j1⟩)
    rw [j2] at h5
    cases h5
  ·refine ⟨0, 0, ?_, .inl ⟨⟨hpar, vis, v1, fun j hj => ?_⟩, rfl, rfl⟩⟩
   ·generalize vis.foldl (fun s a => s.set a true) (zr t.length false) = M at *
    generalize parL t = P at *
    rw [R_go FF F250 c250.eq_1]
    simp only [RB, RL, un, St.none, Nat.reduceEqDiff, Nat.reduceAdd, Nat.reduceMul, Nat.reduceMod, Nat.reduceLeDiff, Nat.reduceLT, Int.reduceLT, Int.reduceLE, Int.reduceEq, Int.reduceToNat, Int.reduceSub, Int.reduceNeg, Int.reduceAdd, ↓reduceIte, reduceCtorEq, pack, pid, parN, lid, chkK, apartV, Heap.none, tr1, tr2, l3, l2, l1, l0, c0, b1, b2, b3, hpl, hml, rB, eNd_rules, eNd_row, eB_rules, eB_row, eX_rules, eX_row, n64, Int.toNat_natCast]
   ·have h5 := (hm j).2.1 (h0 j (Nat.zero_le _) hj)
    rcases h5 with h5 | h5
    ·rw [hrf] at h5; cases h5
    ·exact h5.1
def okR (f : Int) (r : Nat) (t : List RNd) : Prop := match r with
 | 0 => t.any (bdR t.length f) = false
 | 1 => Shp t
 | 2 => t.any bdC = false
 | _ => t.any (bdS t) = false
structure VT (t : List RNd) (f : Int) : Prop where
 rg : t.any (bdR t.length f) = false
 sh : Shp t
 cv : t.any bdC = false
 sm : t.any (bdS t) = false
theorem check_l1 {f : Int} {ts : List (List RNd)} {k r : Nat} (hk : k ≤ 10000000000) (h1k : 1 ≤ k) (hts : ts.length ≤ 100000) (ht : ∀ t ∈ ts, 1 ≤ t.length ∧ t.length ≤ 100000 ∧ SmT t k) (hr4 : r < 4) (hr : r = 0 ∨ ∀ t ∈ ts, t.any (bdR t.length f) = false) : ∀ (d i : Nat), i + d = ts.length →
  (∃ e a b c : Int, e ≠ 0 ∧ (∃ t ∈ ts, ¬ okR f r t) ∧ LP FF [(2, 1), (1, 0), (3, 0), (12, 0), (16, 0), (17, 0), (18, 0)] [(2, 1), (1, 0), (12, 0)] b237_1 [.ownp [(AV.i .i64 0), (AV.i .i64 0), (AV.i .i64 0), (AV.i .i64 0)], .tp (eM (f, ts)) 0, (AV.i .i64 ((r : Int))), (AV.i .i64 ((r : Int))), .l 1 (ts.map eTr), (AV.i .i64 ((ts.length : Int))), (AV.i .i64 ((i : Int)))] = some (.ret, [.ownp [(AV.i .i64 e), (AV.i .i64 a), (AV.i .i64 b), (AV.i .i64 c)], .tp (eM (f, ts)) 0, (AV.i .i64 ((r : Int)))])) ∨
  ((∀ j, i ≤ j → j < ts.length → okR f r (ts.getD j [])) ∧ LP FF [(2, 1), (1, 0), (3, 0), (12, 0), (16, 0), (17, 0), (18, 0)] [(2, 1), (1, 0), (12, 0)] b237_1 [.ownp [(AV.i .i64 0), (AV.i .i64 0), (AV.i .i64 0), (AV.i .i64 0)], .tp (eM (f, ts)) 0, (AV.i .i64 ((r : Int))), (AV.i .i64 ((r : Int))), .l 1 (ts.map eTr), (AV.i .i64 ((ts.length : Int))), (AV.i .i64 ((i : Int)))] = some (.exit 2, [.ownp [(AV.i .i64 0), (AV.i .i64 0), (AV.i .i64 0), (AV.i .i64 0)], .tp (eM (f, ts)) 0, (AV.i .i64 ((r : Int)))])) := by
 intro d
 induction d with
 | zero =>
  intro i hi
  refine .inr ⟨fun j h1 h2 => by omega, ?_⟩
  have c1 : ¬ (i : Int) < (ts.length : Int) := by omega
  simp only [eM]
  rw [LP_go FF b237_1.eq_1]
  simp only [RB, RL, un, St.none, Nat.reduceEqDiff, Nat.reduceAdd, Nat.reduceMul, Nat.reduceMod, Nat.reduceLeDiff, Nat.reduceLT, Int.reduceLT, Int.reduceLE, Int.reduceEq, Int.reduceToNat, Int.reduceSub, Int.reduceNeg, Int.reduceAdd, ↓reduceIte, reduceCtorEq, pack, pid, parN, lid, chkK, apartV, Heap.none, c1, eTr_rules, eTr_row]
 | succ d ih =>
  intro i hi
  have hlt : i < ts.length := by omega
  have hmem := getD_mem' ([] : List RNd) hlt
  obtain ⟨t1, t2, t3⟩ := ht _ hmem
  have c1 : (i : Int) < (ts.length : Int) := by omega
  have e2 : IntKind.i64.wrap ((i : Int) + 1) = ((i + 1 : Nat) : Int) := w64succ (by omega)
  have hcon : ∃ a e : Int, ((okR f r (ts.getD i []) ∧ e = 0) ∨ (¬ okR f r (ts.getD i []) ∧ e ≠ 0)) ∧
    (r = 0 → R FF 249 [.l 14 ((ts.getD i []).map eNd), (AV.i .i64 f)] = some (.tup [(AV.i .i64 a), (AV.i .i64 e)])) ∧ (r = 1 → R FF 250 [.l 14 ((ts.getD i []).map eNd)] = some (.tup [(AV.i .i64 a), (AV.i .i64 e)])) ∧
    (r = 2 → R FF 251 [.l 14 ((ts.getD i []).map eNd)] = some (.tup [(AV.i .i64 a), (AV.i .i64 e)])) ∧ (r = 3 → R FF 252 [.l 14 ((ts.getD i []).map eNd)] = some (.tup [(AV.i .i64 a), (AV.i .i64 e)])) := by
   rcases (show r = 0 ∨ r = 1 ∨ r = 2 ∨ r = 3 by omega) with rfl | rfl | rfl | rfl
   ·obtain ⟨a, h⟩ := ranges_c (f := f) t2
    refine ⟨_, _, ?_, fun _ => h, fun h => (by omega), fun h => (by omega), fun h => (by omega)⟩
    show (((ts.getD i []).any (bdR (ts.getD i []).length f) = false) ∧ _) ∨ (¬ ((ts.getD i []).any (bdR (ts.getD i []).length f) = false) ∧ _)
    cases (ts.getD i []).any (bdR (ts.getD i []).length f)
    ·exact .inl ⟨rfl, rfl⟩
    ·exact .inr ⟨by decide, by decide⟩
   ·obtain ⟨a, e, h, h2⟩ := shape_c t1 t2 (hr.resolve_left (by omega) _ hmem)
    refine ⟨a, e, ?_, fun h => (by omega), fun _ => h, fun h => (by omega), fun h => (by omega)⟩
    rcases h2 with ⟨h3, _, h4⟩ | ⟨h3, h4⟩
    ·exact .inl ⟨h3, h4⟩
    ·exact .inr ⟨h3, by omega⟩
   ·obtain ⟨a, h⟩ := covers_c hk t2 t3
    refine ⟨_, _, ?_, fun h => (by omega), fun h => (by omega), fun _ => h, fun h => (by omega)⟩
    show (((ts.getD i []).any bdC = false) ∧ _) ∨ (¬ ((ts.getD i []).any bdC = false) ∧ _)
    cases (ts.getD i []).any bdC
    ·exact .inl ⟨rfl, rfl⟩
    ·exact .inr ⟨by decide, by decide⟩
   ·obtain ⟨a, h⟩ := vsums_c hk h1k t2 t3 (hr.resolve_left (by omega) _ hmem)
    refine ⟨_, _, ?_, fun h => (by omega), fun h => (by omega), fun h => (by omega), fun _ => h⟩
    show (((ts.getD i []).any (bdS (ts.getD i [])) = false) ∧ _) ∨ (¬ ((ts.getD i []).any (bdS (ts.getD i [])) = false) ∧ _)
    cases (ts.getD i []).any (bdS (ts.getD i []))
    ·exact .inl ⟨rfl, rfl⟩
    ·exact .inr ⟨by decide, by decide⟩
  obtain ⟨a, e, he, k0, k1, k2, k3⟩ := hcon
  rcases he with ⟨h1, rfl⟩ | ⟨h1, h2⟩
  ·have step : LP FF [(2, 1), (1, 0), (3, 0), (12, 0), (16, 0), (17, 0), (18, 0)] [(2, 1), (1, 0), (12, 0)] b237_1 [.ownp [(AV.i .i64 0), (AV.i .i64 0), (AV.i .i64 0), (AV.i .i64 0)], .tp (eM (f, ts)) 0, (AV.i .i64 ((r : Int))), (AV.i .i64 ((r : Int))), .l 1 (ts.map eTr), (AV.i .i64 ((ts.length : Int))), (AV.i .i64 ((i : Int)))] = LP FF [(2, 1), (1, 0), (3, 0), (12, 0), (16, 0), (17, 0), (18, 0)] [(2, 1), (1, 0), (12, 0)] b237_1 [.ownp [(AV.i .i64 0), (AV.i .i64 0), (AV.i .i64 0), (AV.i .i64 0)], .tp (eM (f, ts)) 0, (AV.i .i64 ((r : Int))), (AV.i .i64 ((r : Int))), .l 1 (ts.map eTr), (AV.i .i64 ((ts.length : Int))), (AV.i .i64 (((i + 1 : Nat) : Int)))] := by
    simp only [eM]
    rcases (show r = 0 ∨ r = 1 ∨ r = 2 ∨ r = 3 by omega) with rfl | rfl | rfl | rfl
    ·have k0 := k0 rfl
     rw [zx]
     rw [LP_go FF b237_1.eq_1]
     simp only [RB, RL, un, St.none, Nat.reduceEqDiff, Nat.reduceAdd, Nat.reduceMul, Nat.reduceMod, Nat.reduceLeDiff, Nat.reduceLT, Int.reduceLT, Int.reduceLE, Int.reduceEq, Int.reduceToNat, Int.reduceSub, Int.reduceNeg, Int.reduceAdd, ↓reduceIte, reduceCtorEq, pack, pid, parN, lid, chkK, apartV, Heap.none, c1, e2, eTr_rules, eTr_row, zc, k0]
    ·have k1 := k1 rfl
     rw [show ((1 : Nat) : Int) = 1 from rfl]
     rw [LP_go FF b237_1.eq_1]
     simp only [RB, RL, un, St.none, Nat.reduceEqDiff, Nat.reduceAdd, Nat.reduceMul, Nat.reduceMod, Nat.reduceLeDiff, Nat.reduceLT, Int.reduceLT, Int.reduceLE, Int.reduceEq, Int.reduceToNat, Int.reduceSub, Int.reduceNeg, Int.reduceAdd, ↓reduceIte, reduceCtorEq, pack, pid, parN, lid, chkK, apartV, Heap.none, c1, e2, eTr_rules, eTr_row, zc, k1]
    ·have k2 := k2 rfl
     rw [show ((2 : Nat) : Int) = 2 from rfl]
     rw [LP_go FF b237_1.eq_1]
     simp only [RB, RL, un, St.none, Nat.reduceEqDiff, Nat.reduceAdd, Nat.reduceMul, Nat.reduceMod, Nat.reduceLeDiff, Nat.reduceLT, Int.reduceLT, Int.reduceLE, Int.reduceEq, Int.reduceToNat, Int.reduceSub, Int.reduceNeg, Int.reduceAdd, ↓reduceIte, reduceCtorEq, pack, pid, parN, lid, chkK, apartV, Heap.none, c1, e2, eTr_rules, eTr_row, zc, k2]
    ·have k3 := k3 rfl
     rw [show ((3 : Nat) : Int) = 3 from rfl]
     rw [LP_go FF b237_1.eq_1]
     simp only [RB, RL, un, St.none, Nat.reduceEqDiff, Nat.reduceAdd, Nat.reduceMul, Nat.reduceMod, Nat.reduceLeDiff, Nat.reduceLT, Int.reduceLT, Int.reduceLE, Int.reduceEq, Int.reduceToNat, Int.reduceSub, Int.reduceNeg, Int.reduceAdd, ↓reduceIte, reduceCtorEq, pack, pid, parN, lid, chkK, apartV, Heap.none, c1, e2, eTr_rules, eTr_row, zc, k3]
   rw [step]
   rcases ih (i + 1) (by omega) with h9 | ⟨h8, h9⟩
   ·exact .inl h9
   ·exact .inr ⟨fun j a b => by
     rcases Nat.eq_or_lt_of_le a with rfl | a
     ·exact h1
     ·exact h8 j a b, h9⟩
  ·have fl : R FF 253 [(AV.i .i64 e), (AV.i .i64 ((i : Int))), (AV.i .i64 a)] = some (.agg [(AV.i .i64 e), (AV.i .i64 0), (AV.i .i64 ((i : Int))), (AV.i .i64 a)]) := by
    rw [R_go FF F253 c253.eq_1]
    simp only [RB, RL, un, St.none, Nat.reduceEqDiff, Nat.reduceAdd, Nat.reduceMul, Nat.reduceMod, Nat.reduceLeDiff, Nat.reduceLT, Int.reduceLT, Int.reduceLE, Int.reduceEq, Int.reduceToNat, Int.reduceSub, Int.reduceNeg, Int.reduceAdd, ↓reduceIte, reduceCtorEq, pack, pid, parN, lid, chkK, apartV, Heap.none, n64]
   refine .inl ⟨e, 0, i, a, h2, ⟨_, hmem, h1⟩, ?_⟩
   simp only [eM]
   rcases (show r = 0 ∨ r = 1 ∨ r = 2 ∨ r = 3 by omega) with rfl | rfl | rfl | rfl
   ·have k0 := k0 rfl
    rw [zx]
    rw [LP_go FF b237_1.eq_1]
    simp only [RB, RL, un, St.none, Nat.reduceEqDiff, Nat.reduceAdd, Nat.reduceMul, Nat.reduceMod, Nat.reduceLeDiff, Nat.reduceLT, Int.reduceLT, Int.reduceLE, Int.reduceEq, Int.reduceToNat, Int.reduceSub, Int.reduceNeg, Int.reduceAdd, ↓reduceIte, reduceCtorEq, pack, pid, parN, lid, chkK, apartV, Heap.none, c1, e2, eTr_rules, eTr_row, zc, k0, h2, fl]
   ·have k1 := k1 rfl
    rw [show ((1 : Nat) : Int) = 1 from rfl]
    rw [LP_go FF b237_1.eq_1]
    simp only [RB, RL, un, St.none, Nat.reduceEqDiff, Nat.reduceAdd, Nat.reduceMul, Nat.reduceMod, Nat.reduceLeDiff, Nat.reduceLT, Int.reduceLT, Int.reduceLE, Int.reduceEq, Int.reduceToNat, Int.reduceSub, Int.reduceNeg, Int.reduceAdd, ↓reduceIte, reduceCtorEq, pack, pid, parN, lid, chkK, apartV, Heap.none, c1, e2, eTr_rules, eTr_row, zc, k1, h2, fl]
   ·have k2 := k2 rfl
    rw [show ((2 : Nat) : Int) = 2 from rfl]
    rw [LP_go FF b237_1.eq_1]
    simp only [RB, RL, un, St.none, Nat.reduceEqDiff, Nat.reduceAdd, Nat.reduceMul, Nat.reduceMod, Nat.reduceLeDiff, Nat.reduceLT, Int.reduceLT, Int.reduceLE, Int.reduceEq, Int.reduceToNat, Int.reduceSub, Int.reduceNeg, Int.reduceAdd, ↓reduceIte, reduceCtorEq, pack, pid, parN, lid, chkK, apartV, Heap.none, c1, e2, eTr_rules, eTr_row, zc, k2, h2, fl]
   ·have k3 := k3 rfl
    rw [show ((3 : Nat) : Int) = 3 from rfl]
    rw [LP_go FF b237_1.eq_1]
    simp only [RB, RL, un, St.none, Nat.reduceEqDiff, Nat.reduceAdd, Nat.reduceMul, Nat.reduceMod, Nat.reduceLeDiff, Nat.reduceLT, Int.reduceLT, Int.reduceLE, Int.reduceEq, Int.reduceToNat, Int.reduceSub, Int.reduceNeg, Int.reduceAdd, ↓reduceIte, reduceCtorEq, pack, pid, parN, lid, chkK, apartV, Heap.none, c1, e2, eTr_rules, eTr_row, zc, k3, h2, fl]
theorem check_l0 {f : Int} {ts : List (List RNd)} {k : Nat} (hk : k ≤ 10000000000) (h1k : 1 ≤ k) (hts : ts.length ≤ 100000) (ht : ∀ t ∈ ts, 1 ≤ t.length ∧ t.length ≤ 100000 ∧ SmT t k) : ∀ (d r : Nat), r + d = 4 → (∀ s, s < r → ∀ t ∈ ts, okR f s t) →
  (∃ e a b c : Int, e ≠ 0 ∧ (∃ t ∈ ts, ¬ VT t f) ∧ LP FF [(2, 1), (1, 0), (12, 0)] [(2, 1)] b237_0 [.ownp [(AV.i .i64 0), (AV.i .i64 0), (AV.i .i64 0), (AV.i .i64 0)], .tp (eM (f, ts)) 0, (AV.i .i64 ((r : Int)))] = some (.ret, [.ownp [(AV.i .i64 e), (AV.i .i64 a), (AV.i .i64 b), (AV.i .i64 c)]])) ∨
  ((∀ t ∈ ts, VT t f) ∧ LP FF [(2, 1), (1, 0), (12, 0)] [(2, 1)] b237_0 [.ownp [(AV.i .i64 0), (AV.i .i64 0), (AV.i .i64 0), (AV.i .i64 0)], .tp (eM (f, ts)) 0, (AV.i .i64 ((r : Int)))] = some (.exit 0, [.ownp [(AV.i .i64 0), (AV.i .i64 0), (AV.i .i64 0), (AV.i .i64 0)]])) := by
 intro d
 induction d with
 | zero =>
  intro r hr hs
  have hr : r = 4 := by omega
  subst hr
  refine .inr ⟨fun t h => ⟨hs 0 (by omega) t h, hs 1 (by omega) t h, hs 2 (by omega) t h, hs 3 (by omega) t h⟩, ?_⟩
  simp only [eM]
  rw [show ((4 : Nat) : Int) = 4 from rfl]
  rw [LP_go FF b237_0.eq_1]
  simp only [RB, RL, un, St.none, Nat.reduceEqDiff, Nat.reduceAdd, Nat.reduceMul, Nat.reduceMod, Nat.reduceLeDiff, Nat.reduceLT, Int.reduceLT, Int.reduceLE, Int.reduceEq, Int.reduceToNat, Int.reduceSub, Int.reduceNeg, Int.reduceAdd, ↓reduceIte, reduceCtorEq, pack, pid, parN, lid, chkK, apartV, Heap.none, eTr_rules, eTr_row]
 | succ d ih =>
  intro r hr hs
  have c1 : (r : Int) < 4 := by omega
  have e2 : IntKind.i64.wrap ((r : Int) + 1) = ((r + 1 : Nat) : Int) := w64succ (by omega)
  have l1 := check_l1 (f := f) (r := r) hk h1k hts ht (by omega) (by
   rcases Nat.eq_zero_or_pos r with h | h
   ·exact .inl h
   ·exact .inr (hs 0 h)) ts.length 0 (by omega)
  rw [zx] at l1
  rcases l1 with ⟨e, a, b, c, h1, ⟨t, h2, h3⟩, l1⟩ | ⟨h1, l1⟩
  ·refine .inl ⟨e, a, b, c, h1, ⟨t, h2, fun v => h3 ?_⟩, ?_⟩
   ·rcases (show r = 0 ∨ r = 1 ∨ r = 2 ∨ r = 3 by omega) with rfl | rfl | rfl | rfl
    ·exact v.rg
    ·exact v.sh
    ·exact v.cv
    ·exact v.sm
   ·simp only [eM] at l1 ⊢
    rw [LP_go FF b237_0.eq_1]
    simp only [RB, RL, un, St.none, Nat.reduceEqDiff, Nat.reduceAdd, Nat.reduceMul, Nat.reduceMod, Nat.reduceLeDiff, Nat.reduceLT, Int.reduceLT, Int.reduceLE, Int.reduceEq, Int.reduceToNat, Int.reduceSub, Int.reduceNeg, Int.reduceAdd, ↓reduceIte, reduceCtorEq, pack, pid, parN, lid, chkK, apartV, Heap.none, eTr_rules, eTr_row, c1, l1]
  ·have h9 := ih (r + 1) (by omega) (fun s hs' t h => by
    rcases Nat.lt_or_eq_of_le (show s ≤ r by omega) with h' | rfl
    ·exact hs s h' t h
    ·obtain ⟨i, hi, rfl⟩ := List.getElem_of_mem h
     have := h1 i (Nat.zero_le _) hi
     rwa [za, ze hi, Option.getD_some] at this)
   have step : LP FF [(2, 1), (1, 0), (12, 0)] [(2, 1)] b237_0 [.ownp [(AV.i .i64 0), (AV.i .i64 0), (AV.i .i64 0), (AV.i .i64 0)], .tp (eM (f, ts)) 0, (AV.i .i64 ((r : Int)))] = LP FF [(2, 1), (1, 0), (12, 0)] [(2, 1)] b237_0 [.ownp [(AV.i .i64 0), (AV.i .i64 0), (AV.i .i64 0), (AV.i .i64 0)], .tp (eM (f, ts)) 0, (AV.i .i64 (((r + 1 : Nat) : Int)))] := by
    simp only [eM] at l1 ⊢
    rw [LP_go FF b237_0.eq_1]
    simp only [RB, RL, un, St.none, Nat.reduceEqDiff, Nat.reduceAdd, Nat.reduceMul, Nat.reduceMod, Nat.reduceLeDiff, Nat.reduceLT, Int.reduceLT, Int.reduceLE, Int.reduceEq, Int.reduceToNat, Int.reduceSub, Int.reduceNeg, Int.reduceAdd, ↓reduceIte, reduceCtorEq, pack, pid, parN, lid, chkK, apartV, Heap.none, eTr_rules, eTr_row, c1, l1, e2]
   rw [step]
   exact h9
structure VM (m : RM) : Prop where
 fit : fitB m = true
 all : ∀ t ∈ m.2, VT t m.1
theorem ok_c {m : RM} {k : Nat} (hk : k ≤ 10000000000) (h1k : 1 ≤ k) (hts : m.2.length ≤ 100000) (ht : ∀ t ∈ m.2, t.length ≤ 100000 ∧ SmT t k) : ∃ b : Bool, R FF 211 [.agg (eM m)] = some (.b b) ∧ (b = true ↔ VM m) := by
 have f1 := fits_c hts (fun t h => (ht t h).1)
 obtain ⟨f, ts⟩ := m
 cases hf : fitB (f, ts) with
 | false =>
  refine ⟨false, ?_, ⟨fun h => (by cases h), fun h => by have := h.fit; rw [hf] at this; cases this⟩⟩
  rw [hf] at f1
  have ck : R FF 237 [.agg (eM (f, ts))] = some (.agg [(AV.i .i64 1), (AV.i .i64 0), (AV.i .i64 0), (AV.i .i64 0)]) := by
   simp only [eM] at f1 ⊢
   rw [R_go FF F237 c237.eq_1]
   simp only [RB, RL, un, St.none, Nat.reduceEqDiff, Nat.reduceAdd, Nat.reduceMul, Nat.reduceMod, Nat.reduceLeDiff, Nat.reduceLT, Int.reduceLT, Int.reduceLE, Int.reduceEq, Int.reduceToNat, Int.reduceSub, Int.reduceNeg, Int.reduceAdd, ↓reduceIte, reduceCtorEq, pack, pid, parN, lid, chkK, apartV, Heap.none, f1, n64, eTr_rules, eTr_row]
  simp only [eM] at ck ⊢
  rw [R_go FF F211 c211.eq_1]
  simp only [RB, RL, un, St.none, Nat.reduceEqDiff, Nat.reduceAdd, Nat.reduceMul, Nat.reduceMod, Nat.reduceLeDiff, Nat.reduceLT, Int.reduceLT, Int.reduceLE, Int.reduceEq, Int.reduceToNat, Int.reduceSub, Int.reduceNeg, Int.reduceAdd, ↓reduceIte, reduceCtorEq, pack, pid, parN, lid, chkK, apartV, Heap.none, ck, n64, eTr_rules, eTr_row]
 | true =>
  rw [hf] at f1
  have hb : fitB (f, ts) = !(decide (f < 0) || decide (64 < f) || decide (64 < (ts.length : Int)) || ts.any bdT) := rfl
  rw [hf] at hb
  have hT : ts.any bdT = false := by
   cases h : ts.any bdT with
   | false => rfl
   | true => rw [h, Bool.or_true] at hb; cases hb
  have ht2 : ∀ t ∈ ts, 1 ≤ t.length ∧ t.length ≤ 100000 ∧ SmT t k := fun t h => by
   have h2 := ht t h
   rw [List.any_eq_false] at hT
   have h3 := hT t h
   unfold bdT at h3
   simp only [Bool.or_eq_true, decide_eq_true_eq, not_or] at h3
   exact ⟨by omega, h2.1, h2.2⟩
  have l0 := check_l0 (f := f) hk h1k hts ht2 4 0 (by omega) (fun s h => absurd h (Nat.not_lt_zero _))
  rw [zx] at l0
  rcases l0 with ⟨e, a, b, c, h1, ⟨t, h2, h3⟩, l0⟩ | ⟨h1, l0⟩
  ·refine ⟨false, ?_, ⟨fun h => (by cases h), fun h => (h3 (h.all t h2)).elim⟩⟩
   have ck : R FF 237 [.agg (eM (f, ts))] = some (.agg [(AV.i .i64 e), (AV.i .i64 a), (AV.i .i64 b), (AV.i .i64 c)]) := by
    simp only [eM] at f1 l0 ⊢
    rw [R_go FF F237 c237.eq_1]
    simp only [RB, RL, un, St.none, Nat.reduceEqDiff, Nat.reduceAdd, Nat.reduceMul, Nat.reduceMod, Nat.reduceLeDiff, Nat.reduceLT, Int.reduceLT, Int.reduceLE, Int.reduceEq, Int.reduceToNat, Int.reduceSub, Int.reduceNeg, Int.reduceAdd, ↓reduceIte, reduceCtorEq, pack, pid, parN, lid, chkK, apartV, Heap.none, f1, l0, n64, eTr_rules, eTr_row]
   simp only [eM] at ck ⊢
   rw [R_go FF F211 c211.eq_1]
   simp only [RB, RL, un, St.none, Nat.reduceEqDiff, Nat.reduceAdd, Nat.reduceMul, Nat.reduceMod, Nat.reduceLeDiff, Nat.reduceLT, Int.reduceLT, Int.reduceLE, Int.reduceEq, Int.reduceToNat, Int.reduceSub, Int.reduceNeg, Int.reduceAdd, ↓reduceIte, reduceCtorEq, pack, pid, parN, lid, chkK, apartV, Heap.none, ck, n64, eTr_rules, eTr_row, h1]
  ·refine ⟨true, ?_, ⟨fun _ => ⟨hf, h1⟩, fun _ => rfl⟩⟩
   have ck : R FF 237 [.agg (eM (f, ts))] = some (.agg [(AV.i .i64 0), (AV.i .i64 0), (AV.i .i64 0), (AV.i .i64 0)]) := by
    simp only [eM] at f1 l0 ⊢
    rw [R_go FF F237 c237.eq_1]
    simp only [RB, RL, un, St.none, Nat.reduceEqDiff, Nat.reduceAdd, Nat.reduceMul, Nat.reduceMod, Nat.reduceLeDiff, Nat.reduceLT, Int.reduceLT, Int.reduceLE, Int.reduceEq, Int.reduceToNat, Int.reduceSub, Int.reduceNeg, Int.reduceAdd, ↓reduceIte, reduceCtorEq, pack, pid, parN, lid, chkK, apartV, Heap.none, f1, l0, n64, eTr_rules, eTr_row]
   simp only [eM] at ck ⊢
   rw [R_go FF F211 c211.eq_1]
   simp only [RB, RL, un, St.none, Nat.reduceEqDiff, Nat.reduceAdd, Nat.reduceMul, Nat.reduceMod, Nat.reduceLeDiff, Nat.reduceLT, Int.reduceLT, Int.reduceLE, Int.reduceEq, Int.reduceToNat, Int.reduceSub, Int.reduceNeg, Int.reduceAdd, ↓reduceIte, reduceCtorEq, pack, pid, parN, lid, chkK, apartV, Heap.none, ck, n64, eTr_rules, eTr_row]
theorem vtree_c {t : List RNd} {f : Int} {k : Nat} (hk : k ≤ 10000000000) (h1k : 1 ≤ k) (ht : t.length ≤ 100000) (hs : SmT t k) : ∃ b : Bool, R FF 244 [.l 14 (t.map eNd), (AV.i .i64 f)] = some (.b b) ∧ (b = true ↔ VM (f, [t])) := by
 obtain ⟨b, h1, h2⟩ := ok_c (m := (f, [t])) hk h1k (by show 1 ≤ _; omega) (fun x hx => by rw [List.mem_singleton.1 hx]; exact ⟨ht, hs⟩)
 refine ⟨b, ?_, h2⟩
 change R FF 211 [AV.agg [AV.i .i64 f, AV.l 1 [[AV.l 14 (t.map eNd)]]]] = _ at h1
 rw [R_go FF F244 c244.eq_1]
 simp only [RB, RL, un, St.none, Nat.reduceEqDiff, Nat.reduceAdd, Nat.reduceMul, Nat.reduceMod, Nat.reduceLeDiff, Nat.reduceLT, Int.reduceLT, Int.reduceLE, Int.reduceEq, Int.reduceToNat, Int.reduceSub, Int.reduceNeg, Int.reduceAdd, ↓reduceIte, reduceCtorEq, pack, pid, parN, lid, chkK, apartV, Heap.none, h1, n64]
theorem cnt_app (j : Nat) (l m : List RNd) : cnt j (l ++ m) = cnt j l + cnt j m := by
 induction l with
 | nil => show cnt j m = 0 + cnt j m; omega
 | cons n l ih => show cntN j n + cnt j (l ++ m) = cntN j n + cnt j l + cnt j m; omega
inductive Sub (T : List RNd) (f : Int) : Nat → Nat → Rat → Prop where
 | leaf {p : Nat} (hp : p < T.length) (hl : (T.getD p dNd).leaf = true) (hc : 0 < vQ (T.getD p dNd).cov) : Sub T f p (p + 1) (vQ (T.getD p dNd).cov)
 | node {p q r : Nat} {a b : Rat} (hl : (T.getD p dNd).leaf = false) (hf : 0 ≤ (T.getD p dNd).ft ∧ (T.getD p dNd).ft < f) (h1 : (T.getD p dNd).lft = ((p + 1 : Nat) : Int)) (h2 : (T.getD p dNd).rgt = (q : Int))
  (hc : vQ (T.getD p dNd).cov = a + b) (ha : Sub T f (p + 1) q a) (hb : Sub T f q r b) : Sub T f p r (a + b)
def GdN (T : List RNd) (f : Int) (i : Nat) : Prop := 0 < vQ (T.getD i dNd).cov ∧ ((T.getD i dNd).leaf = true ∨ (0 ≤ (T.getD i dNd).ft ∧ (T.getD i dNd).ft < f ∧ 1 ≤ (T.getD i dNd).lft ∧ (T.getD i dNd).lft < (T.length : Int) ∧ 1 ≤ (T.getD i dNd).rgt ∧ (T.getD i dNd).rgt < (T.length : Int) ∧
 vQ (T.getD i dNd).cov = vQ (T.getD (T.getD i dNd).lft.toNat dNd).cov + vQ (T.getD (T.getD i dNd).rgt.toNat dNd).cov))
theorem Sub.good {T : List RNd} {f : Int} {p q : Nat} {c : Rat} (h : Sub T f p q c) : vQ (T.getD p dNd).cov = c ∧ 0 < c ∧ p < q ∧ q ≤ T.length ∧ ∀ i, p ≤ i → i < q → GdN T f i := by
 induction h with
 | leaf hp hl hc => exact ⟨rfl, hc, by omega, by omega, fun i h1 h2 => by rw [show i = _ from Nat.le_antisymm (by omega) h1]; exact ⟨hc, .inl hl⟩⟩
 | @node p q r a b hl hf h1 h2 hc ha hb iha ihb =>
  obtain ⟨a1, a2, a3, a4, a5⟩ := iha
  obtain ⟨b1, b2, b3, b4, b5⟩ := ihb
  have hpos : 0 < a + b := by grind
  refine ⟨hc, hpos, by omega, b4, fun i i1 i2 => ?_⟩
  rcases Nat.lt_or_ge i q with h | h
  ·rcases Nat.eq_or_lt_of_le i1 with rfl | h'
   ·refine ⟨by rw [hc]; exact hpos, .inr ⟨hf.1, hf.2, by omega, by omega, by omega, by omega, ?_⟩⟩
    rw [h1, h2, hc, Int.toNat_natCast, Int.toNat_natCast, a1, b1]
   ·exact a5 i (by omega) h
  ·exact b5 i h i2
theorem Sub.dfs {T : List RNd} {f : Int} {p q : Nat} {c : Rat} (h : Sub T f p q c) : ∃ ord : List Nat, (∀ j, p ≤ j → j < q → j ∈ ord) ∧ ∀ k S, dfs T (k + (q - p)) (p :: S) = (dfs T k S).map (ord ++ ·) := by
 induction h with
 | @leaf p hp hl hc =>
  refine ⟨[p], fun j h1 h2 => by rw [show j = p by omega]; exact List.mem_singleton.2 rfl, fun k S => ?_⟩
  rw [show k + (p + 1 - p) = k + 1 by omega, Go.Pe.dfs, show kids (T.getD p dNd) = [] by unfold kids; rw [hl]; rfl]
  rfl
 | @node p q r a b hl hf h1 h2 hc ha hb iha ihb =>
  obtain ⟨oa, a1, a2⟩ := iha
  obtain ⟨ob, b1, b2⟩ := ihb
  have ga := ha.good
  have gb := hb.good
  refine ⟨p :: (ob ++ oa), fun j j1 j2 => ?_, fun k S => ?_⟩
  ·rcases Nat.eq_or_lt_of_le j1 with rfl | j1
   ·exact zn ..
   ·refine zo _ (List.mem_append.2 ?_)
    rcases Nat.lt_or_ge j q with h | h
    ·exact .inr (a1 j j1 h)
    ·exact .inl (b1 j h j2)
  ·have hk : kids (T.getD p dNd) = [q, p + 1] := by
    unfold kids
    rw [hl, h1, h2, Int.toNat_natCast, Int.toNat_natCast]; rfl
   rw [show k + (r - p) = (k + (q - (p + 1)) + (r - q)) + 1 by omega, Go.Pe.dfs, hk]
   show (Go.Pe.dfs T (k + (q - (p + 1)) + (r - q)) (q :: (p + 1) :: S)).map _ = _
   rw [b2, a2, Option.map_map, Option.map_map]
   congr 1
   funext l
   simp
theorem treeP_cnt {V : List RQt} {rows : List (List RC)} {lst : Int} {n : Nat} (hlst : 1 ≤ lst) : ∀ (d : Nat) (l : List Nat) (p j : Nat), 1 ≤ l.length → cnt j (treeP V rows lst n d l p) = if p < j ∧ j < p + (treeP V rows lst n d l p).length then 1 else 0 := by
 have hleaf : ∀ (l : List Nat) (p j : Nat), cnt j [lfN V l] = if p < j ∧ j < p + [lfN V l].length then 1 else 0 := by
  intro l p j
  rw [if_neg (by rw [List.length_singleton]; omega)]
  rfl
 have hpos : ∀ (d : Nat) (l : List Nat) (p : Nat), 1 ≤ (treeP V rows lst n d l p).length := by
  intro d l p
  cases d with
  | zero => exact zk _
  | succ d =>
   unfold treeP
   split
   ·exact zk _
   ·split
    ·exact zk _
    ·rw [zt]; omega
 intro d
 induction d with
 | zero => intro l p j _; exact hleaf l p j
 | succ d ih =>
  intro l p j hl
  unfold treeP
  split
  ·exact hleaf l p j
  ·rename_i b hb
   split
   ·exact hleaf l p j
   ·obtain ⟨h1, h2, h3⟩ := part_ok hlst (bestP_mem hb).2.2.1
    have i1 := ih (lfL rows l b.1 b.2.1 b.2.2.1) (p + 1) j h1
    have i2 := ih (rgL rows l b.1 b.2.1 b.2.2.1) (p + 1 + (treeP V rows lst n d (lfL rows l b.1 b.2.1 b.2.2.1) (p + 1)).length) j h2
    have q1 := hpos d (lfL rows l b.1 b.2.1 b.2.2.1) (p + 1)
    have q2 := hpos d (rgL rows l b.1 b.2.1 b.2.2.1) (p + 1 + (treeP V rows lst n d (lfL rows l b.1 b.2.1 b.2.2.1) (p + 1)).length)
    rw [zt, zi]
    show cntN j (inN l b.1 (rQ b.2.1) b.2.2.1 (p + 1) (p + 1 + (treeP V rows lst n d (lfL rows l b.1 b.2.1 b.2.2.1) (p + 1)).length)) + cnt j (_ ++ _) = _
    rw [cnt_app, i1, i2]
    have hN : cntN j (inN l b.1 (rQ b.2.1) b.2.2.1 (p + 1) (p + 1 + (treeP V rows lst n d (lfL rows l b.1 b.2.1 b.2.2.1) (p + 1)).length)) = (if p + 1 = j then 1 else 0) + (if p + 1 + (treeP V rows lst n d (lfL rows l b.1 b.2.1 b.2.2.1) (p + 1)).length = j then 1 else 0) := by
     unfold cntN inN
     simp only [Bool.false_eq_true, if_false, Int.toNat_natCast]
    rw [hN]
    generalize (treeP V rows lst n d (lfL rows l b.1 b.2.1 b.2.2.1) (p + 1)).length = x at *
    generalize (treeP V rows lst n d (rgL rows l b.1 b.2.1 b.2.2.1) (p + 1 + x)).length = y at *
    split <;> split <;> split <;> split <;> split <;> omega
theorem getD_mid (pre post : List RNd) (x : RNd) (m : List RNd) : (pre ++ x :: m ++ post).getD pre.length dNd = x := by
 rw [List.append_assoc, za, List.getElem?_append_right (zk _), Nat.sub_self]; rfl
theorem treeP_sub {V : List RQt} {rows : List (List RC)} {lst : Int} {n : Nat} (hlst : 1 ≤ lst) : ∀ (d : Nat) (l : List Nat) (pre post : List RNd), 1 ≤ l.length →
  Sub (pre ++ treeP V rows lst n d l pre.length ++ post) (n : Int) pre.length (pre.length + (treeP V rows lst n d l pre.length).length) (((l.length : Nat) : Int) : Rat) := by
 have hleaf : ∀ (l : List Nat) (pre post : List RNd), 1 ≤ l.length → Sub (pre ++ [lfN V l] ++ post) (n : Int) pre.length (pre.length + 1) (((l.length : Nat) : Int) : Rat) := by
  intro l pre post hl
  have h1 := getD_mid pre post (lfN V l) []
  have hv : vQ (lfN V l).cov = (((l.length : Nat) : Int) : Rat) := vQ_rQ _
  have h2 : vQ ((pre ++ [lfN V l] ++ post).getD pre.length dNd).cov = (((l.length : Nat) : Int) : Rat) := by rw [h1, hv]
  have hpos : (0 : Rat) < (((l.length : Nat) : Int) : Rat) := by
   have := Rat.intCast_lt_intCast.2 (show (0 : Int) < ((l.length : Nat) : Int) by omega)
   exact this
  have h3 := Sub.leaf (T := pre ++ [lfN V l] ++ post) (f := (n : Int)) (p := pre.length) (by rw [zi, zi, List.length_singleton]; omega) (by rw [h1]; rfl) (by rw [h2]; exact hpos)
  rwa [h2] at h3
 intro d
 induction d with
 | zero => intro l pre post hl; exact hleaf l pre post hl
 | succ d ih =>
  intro l pre post hl
  cases hb : bestP V rows l lst n with
  | none => rw [show treeP V rows lst n (d + 1) l pre.length = [lfN V l] by rw [treeP, hb]]; exact hleaf l pre post hl
  | some b =>
   obtain ⟨bf, bc, bm, bl⟩ := b
   have kk : bf < n ∧ bc ∈ ctV rows bf l ∧ few2 rows l lst bf bc bm = false ∧ bl = splV V rows l bf bc bm := bestP_mem hb
   obtain ⟨k1, k2, k3, k4⟩ := kk
   by_cases hle : lsV (vsL V l) ≤ bl
   ·rw [show treeP V rows lst n (d + 1) l pre.length = [lfN V l] by rw [treeP, hb]; exact if_pos hle]; exact hleaf l pre post hl
   ·obtain ⟨h1, h2, h3⟩ := part_ok hlst k3
    have e1 : treeP V rows lst n (d + 1) l pre.length = inN l bf (rQ bc) bm (pre.length + 1) (pre.length + 1 + (treeP V rows lst n d (lfL rows l bf bc bm) (pre.length + 1)).length) :: (treeP V rows lst n d (lfL rows l bf bc bm) (pre.length + 1) ++ treeP V rows lst n d (rgL rows l bf bc bm) (pre.length + 1 + (treeP V rows lst n d (lfL rows l bf bc bm) (pre.length + 1)).length)) := by
     rw [treeP, hb]; exact if_neg hle
    have iA := ih (lfL rows l bf bc bm) (pre ++ [inN l bf (rQ bc) bm (pre.length + 1) (pre.length + 1 + (treeP V rows lst n d (lfL rows l bf bc bm) (pre.length + 1)).length)]) (treeP V rows lst n d (rgL rows l bf bc bm) (pre.length + 1 + (treeP V rows lst n d (lfL rows l bf bc bm) (pre.length + 1)).length) ++ post) h1
    have iB := ih (rgL rows l bf bc bm) (pre ++ inN l bf (rQ bc) bm (pre.length + 1) (pre.length + 1 + (treeP V rows lst n d (lfL rows l bf bc bm) (pre.length + 1)).length) :: treeP V rows lst n d (lfL rows l bf bc bm) (pre.length + 1)) post h2
    rw [e1]
    rw [show (pre ++ [inN l bf (rQ bc) bm (pre.length + 1) (pre.length + 1 + (treeP V rows lst n d (lfL rows l bf bc bm) (pre.length + 1)).length)]).length = pre.length + 1 by rw [zi, List.length_singleton]] at iA
    rw [show (pre ++ inN l bf (rQ bc) bm (pre.length + 1) (pre.length + 1 + (treeP V rows lst n d (lfL rows l bf bc bm) (pre.length + 1)).length) :: treeP V rows lst n d (lfL rows l bf bc bm) (pre.length + 1)).length = pre.length + 1 + (treeP V rows lst n d (lfL rows l bf bc bm) (pre.length + 1)).length by rw [zi, zt]; omega] at iB
    generalize treeP V rows lst n d (rgL rows l bf bc bm) (pre.length + 1 + (treeP V rows lst n d (lfL rows l bf bc bm) (pre.length + 1)).length) = B at *
    generalize treeP V rows lst n d (lfL rows l bf bc bm) (pre.length + 1) = A at *
    have hx := getD_mid pre post (inN l bf (rQ bc) bm (pre.length + 1) (pre.length + 1 + A.length)) (A ++ B)
    have eA : pre ++ [inN l bf (rQ bc) bm (pre.length + 1) (pre.length + 1 + A.length)] ++ A ++ (B ++ post) = pre ++ inN l bf (rQ bc) bm (pre.length + 1) (pre.length + 1 + A.length) :: (A ++ B) ++ post := by simp
    have eB : pre ++ inN l bf (rQ bc) bm (pre.length + 1) (pre.length + 1 + A.length) :: A ++ B ++ post = pre ++ inN l bf (rQ bc) bm (pre.length + 1) (pre.length + 1 + A.length) :: (A ++ B) ++ post := by simp
    rw [eA] at iA
    rw [eB] at iB
    have hsum : (((l.length : Nat) : Int) : Rat) = ((((lfL rows l bf bc bm).length : Nat) : Int) : Rat) + ((((rgL rows l bf bc bm).length : Nat) : Int) : Rat) := by
     rw [← Rat.intCast_add, ← Int.natCast_add, h3]
    rw [zt, zi, show pre.length + (A.length + B.length + 1) = pre.length + 1 + A.length + B.length by omega, hsum]
    refine Sub.node (q := pre.length + 1 + A.length) (by rw [hx]; rfl) (by rw [hx]; exact ⟨show (0 : Int) ≤ ((bf : Nat) : Int) by omega, show ((bf : Nat) : Int) < n by omega⟩) (by rw [hx]; rfl) (by rw [hx]; rfl) ?_ iA iB
    rw [hx, ← hsum]; exact vQ_rQ _
theorem SmQ_dQ (k : Nat) : SmQ dQ k := ⟨⟨fun _ h => (zK h).elim, Nat.zero_le _⟩, fun _ h => (zK h).elim, Nat.zero_le _⟩
theorem treeP_sm {V : List RQt} {rows : List (List RC)} {lst : Int} {n : Nat} (hV : SmL V 3) : ∀ (d : Nat) (l : List Nat) (p : Nat), InX l V.length → (∀ f, f < n → WfD rows f l 3) → l.length ≤ 90 → SmT (treeP V rows lst n d l p) 10000 := by
 have hcov : ∀ l : List Nat, l.length ≤ 90 → SmQ (rQ (((l.length : Nat) : Int) : Rat)) 10000 := fun l hn => sm_cq (zj (sq_int (l.length : Int) (by omega)) (by omega))
 have hleaf : ∀ l : List Nat, InX l V.length → l.length ≤ 90 → SmT [lfN V l] 10000 := by
  intro l hl hn x hx
  rw [List.mem_singleton.1 hx]
  have h1 := mnV_sq (vsL_all hV (by omega) hl) (by rw [vsL_len]; omega)
  rw [vsL_len] at h1
  exact ⟨hcov l hn, SmQ_dQ _, sm_cq (by omega)⟩
 intro d
 induction d with
 | zero => intro l p hl hw hn; exact hleaf l hl hn
 | succ d ih =>
  intro l p hl hw hn
  cases hb : bestP V rows l lst n with
  | none => rw [show treeP V rows lst n (d + 1) l p = [lfN V l] by rw [treeP, hb]]; exact hleaf l hl hn
  | some b =>
   obtain ⟨bf, bc, bm, bl⟩ := b
   have kk : bf < n ∧ bc ∈ ctV rows bf l ∧ few2 rows l lst bf bc bm = false ∧ bl = splV V rows l bf bc bm := bestP_mem hb
   obtain ⟨k1, k2, k3, k4⟩ := kk
   have k5 : sq bc ≤ 3 := (ctV_ok (by omega) (hw bf k1)).1 _ k2
   by_cases hle : lsV (vsL V l) ≤ bl
   ·rw [show treeP V rows lst n (d + 1) l p = [lfN V l] by rw [treeP, hb]; exact if_pos hle]; exact hleaf l hl hn
   ·have e1 : treeP V rows lst n (d + 1) l p = inN l bf (rQ bc) bm (p + 1) (p + 1 + (treeP V rows lst n d (lfL rows l bf bc bm) (p + 1)).length) :: (treeP V rows lst n d (lfL rows l bf bc bm) (p + 1) ++ treeP V rows lst n d (rgL rows l bf bc bm) (p + 1 + (treeP V rows lst n d (lfL rows l bf bc bm) (p + 1)).length)) := by
     rw [treeP, hb]; exact if_neg hle
    rw [e1]
    intro x hx
    have nA : (lfL rows l bf bc bm).length ≤ l.length := List.length_filter_le _ _
    have nB : (rgL rows l bf bc bm).length ≤ l.length := List.length_filter_le _ _
    rcases List.mem_cons.1 hx with rfl | hx
    ·exact ⟨hcov l hn, sm_cq (by show sq bc ≤ _; omega), SmQ_dQ _⟩
    ·rcases List.mem_append.1 hx with hx | hx
     ·exact ih (lfL rows l bf bc bm) _ (filt_in hl) (wf_part _ hw) (by omega) x hx
     ·exact ih (rgL rows l bf bc bm) _ (filt_in hl) (wf_part _ hw) (by omega) x hx
theorem vm_of {T : List RNd} {n : Nat} {c : Rat} (hn : n ≤ 64) (hT : T.length ≤ 200) (hs : Sub T (n : Int) 0 T.length c) (hc : ∀ j, 0 < j → j < T.length → cnt j T = 1) (hk : ∀ i, i < T.length → (T.getD i dNd).leaf = true → (T.getD i dNd).ft = 0 ∧ (T.getD i dNd).lft = 0 ∧ (T.getD i dNd).rgt = 0) : VM ((n : Int), [T]) := by
 obtain ⟨g1, g2, g3, g4, g5⟩ := hs.good
 have hget : ∀ x ∈ T, ∃ i, i < T.length ∧ T.getD i dNd = x := by
  intro x hx
  obtain ⟨i, hi, rfl⟩ := List.getElem_of_mem hx
  exact ⟨i, hi, by rw [za, ze hi]; rfl⟩
 have hrg : T.any (bdR T.length (n : Int)) = false := by
  rw [List.any_eq_false]
  intro x hx
  obtain ⟨i, hi, rfl⟩ := hget x hx
  rcases (g5 i (Nat.zero_le _) hi).2 with h | ⟨h1, h2, h3, h4, h5, h6, _⟩
  ·unfold bdR; rw [h, Bool.not_true, Bool.false_and]; decide
  ·unfold bdR
   simp only [zd, Bool.or_eq_true, decide_eq_true_eq]
   omega
 have hpar : Par T := ⟨kids_rng hrg, hc⟩
 refine ⟨?_, fun t ht => ?_⟩
 ·have hb : fitB ((n : Int), [T]) = !(decide ((n : Int) < 0) || decide (64 < (n : Int)) || decide (64 < (([T] : List (List RNd)).length : Int)) || [T].any bdT) := rfl
  rw [hb, decide_eq_false (by omega), decide_eq_false (by omega), decide_eq_false (by rw [List.length_singleton]; omega)]
  have hbd : bdT T = false := by
   unfold bdT
   rw [decide_eq_false (by omega), decide_eq_false (by omega), Bool.false_or, Bool.false_or, List.any_eq_false]
   intro x hx
   obtain ⟨i, hi, rfl⟩ := hget x hx
   unfold bdF
   simp only [Bool.or_eq_true, decide_eq_true_eq]
   rcases (g5 i (Nat.zero_le _) hi).2 with h | ⟨h1, h2, h3, h4, h5, h6, _⟩
   ·have := hk i hi h; omega
   ·omega
  rw [List.any_cons, hbd]; rfl
 ·rw [List.mem_singleton.1 ht]
  refine ⟨hrg, ⟨hpar, ?_⟩, ?_, ?_⟩
  ·obtain ⟨ord, o1, o2⟩ := hs.dfs
   have h1 := o2 0 []
   rw [zG, Nat.sub_zero] at h1
   have e0 : dfs T 0 [] = some [] := rfl
   rw [e0] at h1
   exact ⟨ord ++ [], h1, fun j hj => List.mem_append_left _ (o1 j (Nat.zero_le _) hj)⟩
  ·rw [List.any_eq_false]
   intro x hx
   obtain ⟨i, hi, rfl⟩ := hget x hx
   have h := (g5 i (Nat.zero_le _) hi).1
   unfold bdC
   rw [decide_eq_true_eq]
   intro h2
   rw [qsign_n, qcmp_le] at h2
   grind
  ·rw [List.any_eq_false]
   intro x hx
   obtain ⟨i, hi, rfl⟩ := hget x hx
   rcases (g5 i (Nat.zero_le _) hi).2 with h | ⟨h1, h2, h3, h4, h5, h6, h7⟩
   ·unfold bdS; rw [h, Bool.not_true, Bool.false_and]; decide
   ·unfold bdS; rw [h7, decide_eq_true rfl]; simp
theorem treeP_leaf {V : List RQt} {rows : List (List RC)} {lst : Int} {n : Nat} : ∀ (d : Nat) (l : List Nat) (p : Nat), ∀ x ∈ treeP V rows lst n d l p, x.leaf = true → x.ft = 0 ∧ x.lft = 0 ∧ x.rgt = 0 := by
 have hleaf : ∀ l : List Nat, ∀ x ∈ [lfN V l], x.leaf = true → x.ft = 0 ∧ x.lft = 0 ∧ x.rgt = 0 := fun l x hx _ => by rw [List.mem_singleton.1 hx]; exact ⟨rfl, rfl, rfl⟩
 intro d
 induction d with
 | zero => intro l p; exact hleaf l
 | succ d ih =>
  intro l p
  unfold treeP
  split
  ·exact hleaf l
  ·split
   ·exact hleaf l
   ·intro x hx hl
    rcases List.mem_cons.1 hx with rfl | hx
    ·cases hl
    ·rcases List.mem_append.1 hx with hx | hx
     ·exact ih _ _ x hx hl
     ·exact ih _ _ x hx hl
theorem trP_vm {d : RD} (h : OkD d) {r : RR} (h0 : rtV (fD d) r = 0) : VM ((fD d).1, [trP (fD d) r]) ∧ SmT (trP (fD d) r) 10000 ∧ (trP (fD d) r).length ≤ 200 ∧ All2 (SameN 10000) (trP (fD d) r) (trL (fD d) r) := by
 have hl := fD_len d
 have hwf := fD_wf h h0
 obtain ⟨h1, h2, h3, h4⟩ := rtV_ok h0
 obtain ⟨hV, hVl⟩ := fD_vals h
 have hlr : (zD (fD d).2.1.length).length = (fD d).2.1.length := List.length_range ..
 have hin : InX (zD (fD d).2.1.length) (fD d).2.2.length := by rw [← h2]; exact inX_range _
 have hlst : 1 ≤ r.2 := by omega
 have t1 := treeP_len (V := (fD d).2.2) (rows := (fD d).2.1) (n := (fD d).1.toNat) hlst r.1.toNat (zD (fD d).2.1.length) 0 (by omega)
 have t2 := treeP_sub (V := (fD d).2.2) (rows := (fD d).2.1) (n := (fD d).1.toNat) hlst r.1.toNat (zD (fD d).2.1.length) [] [] (by omega)
 rw [List.nil_append, List.append_nil, List.length_nil, zG] at t2
 have t3 := treeP_cnt (V := (fD d).2.2) (rows := (fD d).2.1) (n := (fD d).1.toNat) hlst r.1.toNat (zD (fD d).2.1.length) 0
 have t4 := treeP_leaf (V := (fD d).2.2) (rows := (fD d).2.1) (lst := r.2) (n := (fD d).1.toNat) r.1.toNat (zD (fD d).2.1.length) 0
 have hf : (((fD d).1.toNat : Nat) : Int) = (fD d).1 := by omega
 have v := vm_of (T := trP (fD d) r) (n := (fD d).1.toNat) (by omega) (by show (treeP _ _ _ _ _ _ _).length ≤ _; omega) t2 (fun j j0 j1 => by
  show cnt j (treeP _ _ _ _ _ _ _) = 1
  rw [t3 j (by omega), if_pos ⟨j0, by rw [zG]; exact j1⟩]) (fun i hi hlf => t4 _ (getD_mem' dNd hi) hlf)
 rw [hf] at v
 exact ⟨v, treeP_sm hV _ _ _ hin hwf (by omega), by show (treeP _ _ _ _ _ _ _).length ≤ _; omega, tree_same hV (by omega) _ _ _ hin hwf (by omega)⟩
theorem law_GrowTrees (d : RD) (hd : OkD d) (r : RR) (hr : OkR r) : R FF 267 [.agg (eD d), .agg (eR r)] = some (.b true) := by
 have f1 := few26_c hd
 have f2 := Tree_c (r := r) hd
 have hl := fD_len d
 have f3 := right26_c (d := fD d) (r := r) (by omega)
 have aw := awake26
 by_cases h0 : rtV (fD d) r = 0
 ·have hwf := fD_wf hd h0
  obtain ⟨h1, h2, h3, h4⟩ := rtV_ok h0
  obtain ⟨hV, hVl⟩ := fD_vals hd
  obtain ⟨v1, v2, v3, v4⟩ := trP_vm hd h0
  have hlr : (zD (fD d).2.1.length).length = (fD d).2.1.length := List.length_range ..
  have hin : InX (zD (fD d).2.1.length) (fD d).2.2.length := by rw [← h2]; exact inX_range _
  have g2 := every26_c (d := fD d) (by omega)
  have g3 := grown_c (lst := r.2) (n := (fD d).1.toNat) (by omega) hV (by omega) (by omega) (by omega) r.1.toNat (zD (fD d).2.1.length) 0 (by omega) hin hwf (by omega) (by omega) (by omega)
  rw [show (((fD d).1.toNat : Nat) : Int) = (fD d).1 by omega, show ((r.1.toNat : Nat) : Int) = r.1 by omega, zx] at g3
  change R FF 275 _ = some (AV.l 14 ((trL (fD d) r).map eNd)) at g3
  have g4 := same_c (T := trP (fD d) r) (T' := trL (fD d) r) (k := 10000) (by omega) (by omega) (by omega) v4.len v4.get
  obtain ⟨b, g5, g6⟩ := vtree_c (t := trP (fD d) r) (f := (fD d).1) (k := 10000) (by omega) (by omega) (by omega) v2
  rw [g6.2 v1] at g5
  rw [if_pos h0, h0] at f2
  rw [h0] at f3
  generalize trP (fD d) r = T at *
  generalize trL (fD d) r = T' at *
  generalize zD (fD d).2.1.length = L at *
  generalize fD d = e at *
  obtain ⟨f, rows, vals⟩ := e
  obtain ⟨f', rows', vals'⟩ := d
  obtain ⟨dep, lst⟩ := r
  simp only [eD, eR] at f1 f2 f3 g2 g3 g4 g5 ⊢
  rw [R_go FF F267 c267.eq_1]
  simp only [RB, RL, un, St.none, Nat.reduceEqDiff, Nat.reduceAdd, Nat.reduceMul, Nat.reduceMod, Nat.reduceLeDiff, Nat.reduceLT, Int.reduceLT, Int.reduceLE, Int.reduceEq, Int.reduceToNat, Int.reduceSub, Int.reduceNeg, Int.reduceAdd, ↓reduceIte, reduceCtorEq, pack, pid, parN, lid, chkK, apartV, Heap.none, f1, f2, f3, g2, g3, g4, g5, aw, n64, eX_rules, eX_row, eNd_rules, eNd_row, Row.freeze, zg]
 ·rw [if_neg h0] at f2
  generalize rtV (fD d) r = v at *
  generalize fD d = e at *
  obtain ⟨f, rows, vals⟩ := e
  obtain ⟨f', rows', vals'⟩ := d
  obtain ⟨dep, lst⟩ := r
  simp only [eD, eR, zz] at f1 f2 f3 ⊢
  rw [R_go FF F267 c267.eq_1]
  simp only [RB, RL, un, St.none, Nat.reduceEqDiff, Nat.reduceAdd, Nat.reduceMul, Nat.reduceMod, Nat.reduceLeDiff, Nat.reduceLT, Int.reduceLT, Int.reduceLE, Int.reduceEq, Int.reduceToNat, Int.reduceSub, Int.reduceNeg, Int.reduceAdd, ↓reduceIte, reduceCtorEq, pack, pid, parN, lid, chkK, apartV, Heap.none, f1, f2, f3, h0, n64, aw, Row.freeze]
open Go Go.Proofs
set_option maxRecDepth 100000
def tabs0 : List (Nat × List AV) := [(0, tab0)]
def FD : Nat → Option PF
 | 14 => some p14
 | 29 => some p29
 | 31 => some p31
 | 38 => some p38
 | 39 => some p39
 | 40 => some p40
 | 43 => some p43
 | 47 => some p47
 | 54 => some p54
 | 55 => some p55
 | 56 => some p56
 | 57 => some p57
 | 63 => some p63
 | 64 => some p64
 | 65 => some p65
 | 66 => some p66
 | 68 => some p68
 | 71 => some p71
 | 72 => some p72
 | 73 => some p73
 | 74 => some p74
 | 75 => some p75
 | 76 => some p76
 | 77 => some p77
 | 79 => some p79
 | 80 => some p80
 | 81 => some p81
 | 82 => some p82
 | 83 => some p83
 | 86 => some p86
 | 87 => some p87
 | 88 => some p88
 | 89 => some p89
 | 90 => some p90
 | 91 => some p91
 | 92 => some p92
 | 94 => some p94
 | 95 => some p95
 | 96 => some p96
 | 97 => some p97
 | 106 => some p106
 | 107 => some p107
 | 108 => some p108
 | 109 => some p109
 | 110 => some p110
 | 111 => some p111
 | 112 => some p112
 | 113 => some p113
 | 114 => some p114
 | 115 => some p115
 | 116 => some p116
 | 117 => some p117
 | 118 => some p118
 | 119 => some p119
 | 120 => some p120
 | 122 => some p122
 | 127 => some p127
 | 128 => some p128
 | 129 => some p129
 | 130 => some p130
 | 131 => some p131
 | 137 => some p137
 | 138 => some p138
 | 139 => some p139
 | 140 => some p140
 | 141 => some p141
 | 162 => some p162
 | 167 => some p167
 | 168 => some p168
 | 169 => some p169
 | 170 => some p170
 | 171 => some p171
 | 173 => some p173
 | 211 => some p211
 | 214 => some p214
 | 215 => some p215
 | 216 => some p216
 | 217 => some p217
 | 218 => some p218
 | 219 => some p219
 | 230 => some p230
 | 237 => some p237
 | 238 => some p238
 | 239 => some p239
 | 240 => some p240
 | 241 => some p241
 | 242 => some p242
 | 244 => some p244
 | 246 => some p246
 | 248 => some p248
 | 249 => some p249
 | 250 => some p250
 | 251 => some p251
 | 252 => some p252
 | 253 => some p253
 | 254 => some p254
 | 255 => some p255
 | 256 => some p256
 | 257 => some p257
 | 258 => some p258
 | 261 => some p261
 | 262 => some p262
 | 267 => some p267
 | 272 => some p272
 | 273 => some p273
 | 274 => some p274
 | 275 => some p275
 | 281 => some p281
 | 282 => some p282
 | 283 => some p283
 | 285 => some p285
 | _ => none
def nuD : Nat → Nat
 | 14 => 27
 | 29 => 18
 | 31 => 38
 | 38 => 71
 | 39 => 105
 | 40 => 96
 | 43 => 100
 | 47 => 99
 | 54 => 51
 | 55 => 22
 | 56 => 35
 | 57 => 34
 | 63 => 47
 | 64 => 57
 | 65 => 49
 | 66 => 58
 | 68 => 33
 | 71 => 77
 | 72 => 91
 | 73 => 64
 | 74 => 45
 | 75 => 48
 | 76 => 66
 | 77 => 50
 | 79 => 69
 | 80 => 118
 | 81 => 76
 | 82 => 63
 | 83 => 56
 | 86 => 82
 | 87 => 102
 | 88 => 97
 | 89 => 125
 | 90 => 103
 | 91 => 95
 | 92 => 79
 | 94 => 20
 | 95 => 73
 | 96 => 53
 | 97 => 29
 | 106 => 75
 | 107 => 107
 | 108 => 108
 | 109 => 109
 | 110 => 110
 | 111 => 111
 | 112 => 112
 | 113 => 113
 | 114 => 80
 | 115 => 78
 | 116 => 93
 | 117 => 94
 | 118 => 98
 | 119 => 120
 | 120 => 119
 | 122 => 106
 | 127 => 121
 | 128 => 122
 | 129 => 117
 | 130 => 114
 | 131 => 115
 | 137 => 123
 | 138 => 124
 | 139 => 126
 | 140 => 127
 | 141 => 128
 | 162 => 25
 | 167 => 7
 | 168 => 30
 | 169 => 9
 | 170 => 10
 | 171 => 13
 | 173 => 39
 | 211 => 23
 | 214 => 14
 | 215 => 41
 | 216 => 42
 | 217 => 59
 | 218 => 60
 | 219 => 44
 | 230 => 65
 | 237 => 54
 | 238 => 43
 | 239 => 32
 | 240 => 67
 | 241 => 68
 | 242 => 70
 | 244 => 17
 | 246 => 92
 | 248 => 83
 | 249 => 84
 | 250 => 85
 | 251 => 86
 | 252 => 87
 | 253 => 88
 | 254 => 72
 | 255 => 31
 | 256 => 62
 | 257 => 101
 | 258 => 104
 | 261 => 61
 | 262 => 74
 | 267 => 4
 | 272 => 11
 | 273 => 12
 | 274 => 15
 | 275 => 16
 | 281 => 36
 | 282 => 37
 | 283 => 40
 | 285 => 80
 | _ => 0
theorem M14 : fnOk Tryz.prog (FD, nuD) tabs0 14 p14 = true := by kernel_rfl
theorem M29 : fnOk Tryz.prog (FD, nuD) tabs0 29 p29 = true := by kernel_rfl
theorem M31 : fnOk Tryz.prog (FD, nuD) tabs0 31 p31 = true := by kernel_rfl
theorem M38 : fnOk Tryz.prog (FD, nuD) tabs0 38 p38 = true := by kernel_rfl
theorem M39 : fnOk Tryz.prog (FD, nuD) tabs0 39 p39 = true := by kernel_rfl
theorem M40 : fnOk Tryz.prog (FD, nuD) tabs0 40 p40 = true := by kernel_rfl
theorem M43 : fnOk Tryz.prog (FD, nuD) tabs0 43 p43 = true := by kernel_rfl
theorem M47 : fnOk Tryz.prog (FD, nuD) tabs0 47 p47 = true := by kernel_rfl
theorem M54 : fnOk Tryz.prog (FD, nuD) tabs0 54 p54 = true := by kernel_rfl
theorem M55 : fnOk Tryz.prog (FD, nuD) tabs0 55 p55 = true := by kernel_rfl
theorem M56 : fnOk Tryz.prog (FD, nuD) tabs0 56 p56 = true := by kernel_rfl
theorem M57 : fnOk Tryz.prog (FD, nuD) tabs0 57 p57 = true := by kernel_rfl
theorem M63 : fnOk Tryz.prog (FD, nuD) tabs0 63 p63 = true := by kernel_rfl
theorem M64 : fnOk Tryz.prog (FD, nuD) tabs0 64 p64 = true := by kernel_rfl
theorem M65 : fnOk Tryz.prog (FD, nuD) tabs0 65 p65 = true := by kernel_rfl
theorem M66 : fnOk Tryz.prog (FD, nuD) tabs0 66 p66 = true := by kernel_rfl
theorem M68 : fnOk Tryz.prog (FD, nuD) tabs0 68 p68 = true := by kernel_rfl
theorem M71 : fnOk Tryz.prog (FD, nuD) tabs0 71 p71 = true := by kernel_rfl
theorem M72 : fnOk Tryz.prog (FD, nuD) tabs0 72 p72 = true := by kernel_rfl
theorem M73 : fnOk Tryz.prog (FD, nuD) tabs0 73 p73 = true := by kernel_rfl
theorem M74 : fnOk Tryz.prog (FD, nuD) tabs0 74 p74 = true := by kernel_rfl
theorem M75 : fnOk Tryz.prog (FD, nuD) tabs0 75 p75 = true := by kernel_rfl
theorem M76 : fnOk Tryz.prog (FD, nuD) tabs0 76 p76 = true := by kernel_rfl
theorem M77 : fnOk Tryz.prog (FD, nuD) tabs0 77 p77 = true := by kernel_rfl
theorem M79 : fnOk Tryz.prog (FD, nuD) tabs0 79 p79 = true := by kernel_rfl
theorem M80 : fnOk Tryz.prog (FD, nuD) tabs0 80 p80 = true := by kernel_rfl
theorem M81 : fnOk Tryz.prog (FD, nuD) tabs0 81 p81 = true := by kernel_rfl
theorem M82 : fnOk Tryz.prog (FD, nuD) tabs0 82 p82 = true := by kernel_rfl
theorem M83 : fnOk Tryz.prog (FD, nuD) tabs0 83 p83 = true := by kernel_rfl
theorem M86 : fnOk Tryz.prog (FD, nuD) tabs0 86 p86 = true := by kernel_rfl
theorem M87 : fnOk Tryz.prog (FD, nuD) tabs0 87 p87 = true := by kernel_rfl
theorem M88 : fnOk Tryz.prog (FD, nuD) tabs0 88 p88 = true := by kernel_rfl
theorem M89 : fnOk Tryz.prog (FD, nuD) tabs0 89 p89 = true := by kernel_rfl
theorem M90 : fnOk Tryz.prog (FD, nuD) tabs0 90 p90 = true := by kernel_rfl
theorem M91 : fnOk Tryz.prog (FD, nuD) tabs0 91 p91 = true := by kernel_rfl
theorem M92 : fnOk Tryz.prog (FD, nuD) tabs0 92 p92 = true := by kernel_rfl
theorem M94 : fnOk Tryz.prog (FD, nuD) tabs0 94 p94 = true := by kernel_rfl
theorem M95 : fnOk Tryz.prog (FD, nuD) tabs0 95 p95 = true := by kernel_rfl
theorem M96 : fnOk Tryz.prog (FD, nuD) tabs0 96 p96 = true := by kernel_rfl
theorem M97 : fnOk Tryz.prog (FD, nuD) tabs0 97 p97 = true := by kernel_rfl
theorem M106 : fnOk Tryz.prog (FD, nuD) tabs0 106 p106 = true := by kernel_rfl
theorem M107 : fnOk Tryz.prog (FD, nuD) tabs0 107 p107 = true := by kernel_rfl
theorem M108 : fnOk Tryz.prog (FD, nuD) tabs0 108 p108 = true := by kernel_rfl
theorem M109 : fnOk Tryz.prog (FD, nuD) tabs0 109 p109 = true := by kernel_rfl
theorem M110 : fnOk Tryz.prog (FD, nuD) tabs0 110 p110 = true := by kernel_rfl
theorem M111 : fnOk Tryz.prog (FD, nuD) tabs0 111 p111 = true := by kernel_rfl
theorem M112 : fnOk Tryz.prog (FD, nuD) tabs0 112 p112 = true := by kernel_rfl
theorem M113 : fnOk Tryz.prog (FD, nuD) tabs0 113 p113 = true := by kernel_rfl
theorem M114 : fnOk Tryz.prog (FD, nuD) tabs0 114 p114 = true := by kernel_rfl
theorem M115 : fnOk Tryz.prog (FD, nuD) tabs0 115 p115 = true := by kernel_rfl
theorem M116 : fnOk Tryz.prog (FD, nuD) tabs0 116 p116 = true := by kernel_rfl
theorem M117 : fnOk Tryz.prog (FD, nuD) tabs0 117 p117 = true := by kernel_rfl
theorem M118 : fnOk Tryz.prog (FD, nuD) tabs0 118 p118 = true := by kernel_rfl
theorem M119 : fnOk Tryz.prog (FD, nuD) tabs0 119 p119 = true := by kernel_rfl
theorem M120 : fnOk Tryz.prog (FD, nuD) tabs0 120 p120 = true := by kernel_rfl
theorem M122 : fnOk Tryz.prog (FD, nuD) tabs0 122 p122 = true := by kernel_rfl
theorem M127 : fnOk Tryz.prog (FD, nuD) tabs0 127 p127 = true := by kernel_rfl
theorem M128 : fnOk Tryz.prog (FD, nuD) tabs0 128 p128 = true := by kernel_rfl
theorem M129 : fnOk Tryz.prog (FD, nuD) tabs0 129 p129 = true := by kernel_rfl
theorem M130 : fnOk Tryz.prog (FD, nuD) tabs0 130 p130 = true := by kernel_rfl
theorem M131 : fnOk Tryz.prog (FD, nuD) tabs0 131 p131 = true := by kernel_rfl
theorem M137 : fnOk Tryz.prog (FD, nuD) tabs0 137 p137 = true := by kernel_rfl
theorem M138 : fnOk Tryz.prog (FD, nuD) tabs0 138 p138 = true := by kernel_rfl
theorem M139 : fnOk Tryz.prog (FD, nuD) tabs0 139 p139 = true := by kernel_rfl
theorem M140 : fnOk Tryz.prog (FD, nuD) tabs0 140 p140 = true := by kernel_rfl
theorem M141 : fnOk Tryz.prog (FD, nuD) tabs0 141 p141 = true := by kernel_rfl
theorem M162 : fnOk Tryz.prog (FD, nuD) tabs0 162 p162 = true := by kernel_rfl
theorem M167 : fnOk Tryz.prog (FD, nuD) tabs0 167 p167 = true := by kernel_rfl
theorem M168 : fnOk Tryz.prog (FD, nuD) tabs0 168 p168 = true := by kernel_rfl
theorem M169 : fnOk Tryz.prog (FD, nuD) tabs0 169 p169 = true := by kernel_rfl
theorem M170 : fnOk Tryz.prog (FD, nuD) tabs0 170 p170 = true := by kernel_rfl
theorem M171 : fnOk Tryz.prog (FD, nuD) tabs0 171 p171 = true := by kernel_rfl
theorem M173 : fnOk Tryz.prog (FD, nuD) tabs0 173 p173 = true := by kernel_rfl
theorem M211 : fnOk Tryz.prog (FD, nuD) tabs0 211 p211 = true := by kernel_rfl
theorem M214 : fnOk Tryz.prog (FD, nuD) tabs0 214 p214 = true := by kernel_rfl
theorem M215 : fnOk Tryz.prog (FD, nuD) tabs0 215 p215 = true := by kernel_rfl
theorem M216 : fnOk Tryz.prog (FD, nuD) tabs0 216 p216 = true := by kernel_rfl
theorem M217 : fnOk Tryz.prog (FD, nuD) tabs0 217 p217 = true := by kernel_rfl
theorem M218 : fnOk Tryz.prog (FD, nuD) tabs0 218 p218 = true := by kernel_rfl
theorem M219 : fnOk Tryz.prog (FD, nuD) tabs0 219 p219 = true := by kernel_rfl
theorem M230 : fnOk Tryz.prog (FD, nuD) tabs0 230 p230 = true := by kernel_rfl
theorem M237 : fnOk Tryz.prog (FD, nuD) tabs0 237 p237 = true := by kernel_rfl
theorem M238 : fnOk Tryz.prog (FD, nuD) tabs0 238 p238 = true := by kernel_rfl
theorem M239 : fnOk Tryz.prog (FD, nuD) tabs0 239 p239 = true := by kernel_rfl
theorem M240 : fnOk Tryz.prog (FD, nuD) tabs0 240 p240 = true := by kernel_rfl
theorem M241 : fnOk Tryz.prog (FD, nuD) tabs0 241 p241 = true := by kernel_rfl
theorem M242 : fnOk Tryz.prog (FD, nuD) tabs0 242 p242 = true := by kernel_rfl
theorem M244 : fnOk Tryz.prog (FD, nuD) tabs0 244 p244 = true := by kernel_rfl
theorem M246 : fnOk Tryz.prog (FD, nuD) tabs0 246 p246 = true := by kernel_rfl
theorem M248 : fnOk Tryz.prog (FD, nuD) tabs0 248 p248 = true := by kernel_rfl
theorem M249 : fnOk Tryz.prog (FD, nuD) tabs0 249 p249 = true := by kernel_rfl
theorem M250 : fnOk Tryz.prog (FD, nuD) tabs0 250 p250 = true := by kernel_rfl
theorem M251 : fnOk Tryz.prog (FD, nuD) tabs0 251 p251 = true := by kernel_rfl
theorem M252 : fnOk Tryz.prog (FD, nuD) tabs0 252 p252 = true := by kernel_rfl
theorem M253 : fnOk Tryz.prog (FD, nuD) tabs0 253 p253 = true := by kernel_rfl
theorem M254 : fnOk Tryz.prog (FD, nuD) tabs0 254 p254 = true := by kernel_rfl
theorem M255 : fnOk Tryz.prog (FD, nuD) tabs0 255 p255 = true := by kernel_rfl
theorem M256 : fnOk Tryz.prog (FD, nuD) tabs0 256 p256 = true := by kernel_rfl
theorem M257 : fnOk Tryz.prog (FD, nuD) tabs0 257 p257 = true := by kernel_rfl
theorem M258 : fnOk Tryz.prog (FD, nuD) tabs0 258 p258 = true := by kernel_rfl
theorem M261 : fnOk Tryz.prog (FD, nuD) tabs0 261 p261 = true := by kernel_rfl
theorem M262 : fnOk Tryz.prog (FD, nuD) tabs0 262 p262 = true := by kernel_rfl
theorem M267 : fnOk Tryz.prog (FD, nuD) tabs0 267 p267 = true := by kernel_rfl
theorem M272 : fnOk Tryz.prog (FD, nuD) tabs0 272 p272 = true := by kernel_rfl
theorem M273 : fnOk Tryz.prog (FD, nuD) tabs0 273 p273 = true := by kernel_rfl
theorem M274 : fnOk Tryz.prog (FD, nuD) tabs0 274 p274 = true := by kernel_rfl
theorem M275 : fnOk Tryz.prog (FD, nuD) tabs0 275 p275 = true := by kernel_rfl
theorem M281 : fnOk Tryz.prog (FD, nuD) tabs0 281 p281 = true := by kernel_rfl
theorem M282 : fnOk Tryz.prog (FD, nuD) tabs0 282 p282 = true := by kernel_rfl
theorem M283 : fnOk Tryz.prog (FD, nuD) tabs0 283 p283 = true := by kernel_rfl
theorem M285 : fnOk Tryz.prog (FD, nuD) tabs0 285 p285 = true := by kernel_rfl
theorem FD_ok (g : Nat) (p : PF) (h : FD g = some p) : fnOk Tryz.prog (FD, nuD) tabs0 g p = true ∧ FF g = some p := by
 unfold FD at h
 split at h
 ·cases h; exact ⟨M14, rfl⟩
 ·cases h; exact ⟨M29, rfl⟩
 ·cases h; exact ⟨M31, rfl⟩
 ·cases h; exact ⟨M38, rfl⟩
 ·cases h; exact ⟨M39, rfl⟩
 ·cases h; exact ⟨M40, rfl⟩
 ·cases h; exact ⟨M43, rfl⟩
 ·cases h; exact ⟨M47, rfl⟩
 ·cases h; exact ⟨M54, rfl⟩
 ·cases h; exact ⟨M55, rfl⟩
 ·cases h; exact ⟨M56, rfl⟩
 ·cases h; exact ⟨M57, rfl⟩
 ·cases h; exact ⟨M63, rfl⟩
 ·cases h; exact ⟨M64, rfl⟩
 ·cases h; exact ⟨M65, rfl⟩
 ·cases h; exact ⟨M66, rfl⟩
 ·cases h; exact ⟨M68, rfl⟩
 ·cases h; exact ⟨M71, rfl⟩
 ·cases h; exact ⟨M72, rfl⟩
 ·cases h; exact ⟨M73, rfl⟩
 ·cases h; exact ⟨M74, rfl⟩
 ·cases h; exact ⟨M75, rfl⟩
 ·cases h; exact ⟨M76, rfl⟩
 ·cases h; exact ⟨M77, rfl⟩
 ·cases h; exact ⟨M79, rfl⟩
 ·cases h; exact ⟨M80, rfl⟩
 ·cases h; exact ⟨M81, rfl⟩
 ·cases h; exact ⟨M82, rfl⟩
 ·cases h; exact ⟨M83, rfl⟩
 ·cases h; exact ⟨M86, rfl⟩
 ·cases h; exact ⟨M87, rfl⟩
 ·cases h; exact ⟨M88, rfl⟩
 ·cases h; exact ⟨M89, rfl⟩
 ·cases h; exact ⟨M90, rfl⟩
 ·cases h; exact ⟨M91, rfl⟩
 ·cases h; exact ⟨M92, rfl⟩
 ·cases h; exact ⟨M94, rfl⟩
 ·cases h; exact ⟨M95, rfl⟩
 ·cases h; exact ⟨M96, rfl⟩
 ·cases h; exact ⟨M97, rfl⟩
 ·cases h; exact ⟨M106, rfl⟩
 ·cases h; exact ⟨M107, rfl⟩
 ·cases h; exact ⟨M108, rfl⟩
 ·cases h; exact ⟨M109, rfl⟩
 ·cases h; exact ⟨M110, rfl⟩
 ·cases h; exact ⟨M111, rfl⟩
 ·cases h; exact ⟨M112, rfl⟩
 ·cases h; exact ⟨M113, rfl⟩
 ·cases h; exact ⟨M114, rfl⟩
 ·cases h; exact ⟨M115, rfl⟩
 ·cases h; exact ⟨M116, rfl⟩
 ·cases h; exact ⟨M117, rfl⟩
 ·cases h; exact ⟨M118, rfl⟩
 ·cases h; exact ⟨M119, rfl⟩
 ·cases h; exact ⟨M120, rfl⟩
 ·cases h; exact ⟨M122, rfl⟩
 ·cases h; exact ⟨M127, rfl⟩
 ·cases h; exact ⟨M128, rfl⟩
 ·cases h; exact ⟨M129, rfl⟩
 ·cases h; exact ⟨M130, rfl⟩
 ·cases h; exact ⟨M131, rfl⟩
 ·cases h; exact ⟨M137, rfl⟩
 ·cases h; exact ⟨M138, rfl⟩
 ·cases h; exact ⟨M139, rfl⟩
 ·cases h; exact ⟨M140, rfl⟩
 ·cases h; exact ⟨M141, rfl⟩
 ·cases h; exact ⟨M162, rfl⟩
 ·cases h; exact ⟨M167, rfl⟩
 ·cases h; exact ⟨M168, rfl⟩
 ·cases h; exact ⟨M169, rfl⟩
 ·cases h; exact ⟨M170, rfl⟩
 ·cases h; exact ⟨M171, rfl⟩
 ·cases h; exact ⟨M173, rfl⟩
 ·cases h; exact ⟨M211, rfl⟩
 ·cases h; exact ⟨M214, rfl⟩
 ·cases h; exact ⟨M215, rfl⟩
 ·cases h; exact ⟨M216, rfl⟩
 ·cases h; exact ⟨M217, rfl⟩
 ·cases h; exact ⟨M218, rfl⟩
 ·cases h; exact ⟨M219, rfl⟩
 ·cases h; exact ⟨M230, rfl⟩
 ·cases h; exact ⟨M237, rfl⟩
 ·cases h; exact ⟨M238, rfl⟩
 ·cases h; exact ⟨M239, rfl⟩
 ·cases h; exact ⟨M240, rfl⟩
 ·cases h; exact ⟨M241, rfl⟩
 ·cases h; exact ⟨M242, rfl⟩
 ·cases h; exact ⟨M244, rfl⟩
 ·cases h; exact ⟨M246, rfl⟩
 ·cases h; exact ⟨M248, rfl⟩
 ·cases h; exact ⟨M249, rfl⟩
 ·cases h; exact ⟨M250, rfl⟩
 ·cases h; exact ⟨M251, rfl⟩
 ·cases h; exact ⟨M252, rfl⟩
 ·cases h; exact ⟨M253, rfl⟩
 ·cases h; exact ⟨M254, rfl⟩
 ·cases h; exact ⟨M255, rfl⟩
 ·cases h; exact ⟨M256, rfl⟩
 ·cases h; exact ⟨M257, rfl⟩
 ·cases h; exact ⟨M258, rfl⟩
 ·cases h; exact ⟨M261, rfl⟩
 ·cases h; exact ⟨M262, rfl⟩
 ·cases h; exact ⟨M267, rfl⟩
 ·cases h; exact ⟨M272, rfl⟩
 ·cases h; exact ⟨M273, rfl⟩
 ·cases h; exact ⟨M274, rfl⟩
 ·cases h; exact ⟨M275, rfl⟩
 ·cases h; exact ⟨M281, rfl⟩
 ·cases h; exact ⟨M282, rfl⟩
 ·cases h; exact ⟨M283, rfl⟩
 ·cases h; exact ⟨M285, rfl⟩
 ·cases h
theorem followsD : Tryz.prog.follows .mixedOrders = true := by kernel_rfl
theorem callsD : CallsOk Tryz.prog (FD, nuD) tabs0 (R FF) := R_ok followsD FD_ok
end Go.Pe
namespace Go.Proofs.YtmdlpmhkpnobeaaGreatDoor.growTrees
open Go.Pe
open Go.ChangeShapes Go.WideShapes Go.ChangeAt Go.RowKit
theorem own : ownKnob Tryz.prog.godebug = none := by kernel_rfl
theorem laidOut : laidOutB Tryz.prog = true := by kernel_rfl
def laid : List (String × DataW Unit) := [("math/bits.deBruijn64tab", Rows.laid_math_bits_deBruijn64tab)]
def tz : List Int := tab0.map fun | .i _ n => n | _ => 0
theorem tab_rv {W : World} (h : laidMetH Tryz.prog laid W) : Rv W (fun _ => False) Rho.none (.tp tab0 0) (.pointer (some ⟨0, 0, none⟩)) := by
 rw [MakeChecks.laidMetH_plain _ _ _ (by kernel_rfl)] at h
 obtain ⟨ps, ⟨g, t, cs, fuel, p, q, hg, ht, hv, hd, _, _⟩, _, _⟩ := h
 obtain rfl := Option.some.inj ((show Tryz.prog.globalNamed "math/bits.deBruijn64tab" = some 0 by kernel_rfl).symm.trans hg)
 obtain rfl := Option.some.inj ((show (Tryz.prog.globals[0]?).map (·.type) = some 166 by kernel_rfl).symm.trans ht)
 obtain ⟨xs, m, _, ex, _, hl, hel⟩ := DataW.trod_array Tryz.underlying166 hd
 have cE : Tryz.prog.cellsOf 5 = 1 := by kernel_rfl
 have hlen : tz.length = 64 := by decide
 have e0 : (xs.map (·.1)) = tz.map fun n => .lit (.int .u8 n) := (DataW.agg.inj (Prod.mk.inj ex).1).symm
 have cell : ∀ r, r < 64 → W.cell? ⟨0, r, none⟩ = some (.int .u8 (tz.getD r 0)) := by
  intro r hr
  have hE := hel r hr
  rw [cE, Nat.mul_one, ze (by omega)] at hE
  obtain ⟨z, e1, e2, _⟩ := DataW.trod_int Tryz.underlying5 hE
  have e4 : (xs.map (·.1))[r]? = (tz.map fun n => (DataW.lit (.int .u8 n) : DataW Unit))[r]? := by rw [e0]
  rw [List.getElem?_map, List.getElem?_map, ze (by omega : r < xs.length), ze (by omega : r < tz.length), e2] at e4
  have hz : z = tz.getD r 0 := by
   simp only [Option.map_some, Option.some.injEq, DataW.lit.injEq, Lit.int.injEq, true_and] at e4
   rw [e4, List.getD, ze (by omega : r < tz.length)]; rfl
  rw [World.var?_cell hg hv r, ← hz]
  have : cs.toList[r]? = some (.int .u8 z) := by
   have h0 : ((cs.toList.drop r).take 1)[0]? = some (.int .u8 z) := by rw [e1]; rfl
   simpa using h0
  simpa using this
 have hb : 0 < W.heap.size := by
  have h0 := cell 0 (by decide)
  rcases Nat.lt_or_ge 0 W.heap.size with h | h
  ·exact h
  ·unfold World.cell? at h0; rw [Array.getElem?_eq_none h] at h0; cases h0
 refine Rv.tp (o := 0) (base := 0) (fun c => .int .u8 (tz.getD c 0)) (fun h => h) hb (fun c hc => ?_) fun c hc => ?_
 ·rw [zG]; exact ⟨cell c hc, rfl⟩
 ·have e : tab0 = tz.map (AV.i .u8) := rfl
  have hc' : c < tz.length := by rw [hlen]; exact hc
  rw [e, za, List.getElem?_map, za, ze hc']
  exact Rv.i
set_option maxRecDepth 100000 in
theorem lifted (os : Os) (started : os.Started) (H : Type) (enc : TypeId × Value → H) :
  ReturnsInHanded {} Tryz.checked os 4 .any (fun w args => (Rows.growTreesSpec.pre enc Tryz.prog Tryz.f4 Rows.growTreesRow.domain false w args ∧ laidMetH Tryz.prog laid w) ∧ sizedMet enc Tryz.prog Tryz.f4 (OpenSpec.ofChange Rows.growTreesSpec) false w args) (Rows.growTreesSpec.post enc Tryz.prog Tryz.f4 false true false false) := by
 refine returnsInHanded_of_change_and (C := Tryz.checked) (X := fun w _ => laidMetH Tryz.prog laid w) (fun _ _ _ hh h => h.of_heap hh) own started (by kernel_rfl) Tryz.func4
  (ChangeSpec.witness_shaped (enc := enc) (C := Tryz.checked) (os := os) (X := fun w _ => laidMetH Tryz.prog laid w) false (World.laidAll Tryz.prog os laid) #[.agg #[.int .i64 0, .slice none 0 0, .slice none 0 0], .agg #[.int .i64 0, .int .i64 0]] 8 (World.laidAll_os _ _ _)
   (World.shaped_of_ZipB (by kernel_rfl) (by kernel_rfl)) (by kernel_rfl) (by kernel_rfl) (by kernel_rfl) (by rw [MakeChecks.laidMetH_plain _ _ _ (by kernel_rfl)]; exact laidMet_laidAll _ (by kernel_rfl) (by kernel_rfl))) ?_
 intro W base args ds gs before hval0 hW hcnd hsz0 hL _
 have hval : ∀ (j : Nat) t v, Tryz.f4.params[j]? = some t → args[j]? = some v → Value.okWide Tryz.prog W .any base t v := hval0
 have hW' := hW
 obtain ⟨p, q, hA0, hV, rfl, hfz, hnd⟩ := hW
 have hA : DataW.TrodAll enc Tryz.prog W 0 (fun _ => true) true Tryz.f4.params.toList args.toList ds p := hA0
 rw [Tryz.params4] at hA hval
 obtain ⟨v0, vs0, d0, ds0, pl0, ql0, hargs, rfl, rfl, h0, r0⟩ := trodAll_cons hA
 obtain ⟨v1, vs1, d1, ds1, pl1, ql1, rfl, rfl, rfl, h1, r1⟩ := trodAll_cons r0
 obtain ⟨rfl, rfl, rfl⟩ := trodAll_nil r1
 obtain rfl : args = #[v0, v1] := by cases args; simp_all
 obtain ⟨rfl, rfl⟩ := trodVars_none hV
 have lt0 : ∀ x ∈ pl0, x.block < W.heap.size := by obtain ⟨m, hm⟩ := h0; exact DataW.trod_lt m _ _ _ hm
 obtain ⟨acs0, la0, fa0, rv0⟩ := arg_rv (n := 12) (ks := kD) (hval 0 25 v0 rfl rfl) h0 (by kernel_rfl)
 rw [show isStr Tryz.prog 25 = true by kernel_rfl] at rv0
 obtain ⟨x0, rfl, ok0⟩ := open_D ⟨la0, fa0⟩
 have lt1 : ∀ x ∈ pl1, x.block < W.heap.size := by obtain ⟨m, hm⟩ := h1; exact DataW.trod_lt m _ _ _ hm
 obtain ⟨acs1, la1, fa1, rv1⟩ := arg_rv (n := 12) (ks := kR) (hval 1 27 v1 rfl rfl) h1 (by kernel_rfl)
 rw [show isStr Tryz.prog 27 = true by kernel_rfl] at rv1
 obtain ⟨x1, rfl, ok1⟩ := open_R ⟨la1, fa1⟩
 clear hA0 hval0 hsz0
 have hlaw := law_GrowTrees x0 ok0 x1 ok1
 have hx : ∀ j, j < 2 → Rv W (fun _ => False) Rho.none ([AV.agg (eD x0), AV.agg (eR x1)].getD j .junk) (#[v0, v1].getD j undef) := by
  intro j hj
  match j, hj with
  | 0, _ => exact rv0
  | 1, _ => exact rv1
 refine (law_true (F := (FD, nuD)) callsD (g := 267) (p := p267) rfl rfl (by decide) (by kernel_rfl) hlaw (w := W) (vs := #[v0, v1]) (fun q hq => by obtain rfl := List.mem_singleton.1 hq; exact tab_rv hL) rfl hx).mono fun e W' ⟨he, bel⟩ => ?_
 subst he
 exact ⟨_, rfl, _, _, _, [], _, [], hW', trodAll_mk1 (shut_bool Tryz.underlying4 _), (trodAll_cons_mk (Below.trod laidOut (by kernel_rfl) (of_decide_eq_true (by kernel_rfl)) h0 bel lt0) (trodAll_cons_mk (Below.trod laidOut (by kernel_rfl) (of_decide_eq_true (by kernel_rfl)) h1 bel lt1) trodAll_mk0)), rfl, bel.frame _, fun h => by cases h⟩
theorem over : Rows.growTreesRow.holds Tryz.pinned (OpenSpec.ofChange Rows.growTreesSpec) :=
 OpenClaim.holds_of_wide 4 Tryz.f4 rfl rfl rfl rfl rfl rfl rfl ⟨rfl, rfl, rfl, rfl, rfl⟩ rfl rfl rfl rfl rfl (by kernel_rfl) Tryz.func4 (by kernel_rfl)
  (of_decide_eq_true (by kernel_rfl)) (by unfold Func.isWrapper; first | (rw [if_pos (by decide +kernel)]; kernel_rfl) | (rw [if_neg (by decide +kernel)]; exact ⟨rfl, rfl⟩))
  (fun os started H enc _ => lifted os started H enc)
theorem proved : Rows.GrowTreesCardSaid :=
 Claim7.holds_tied_plain_at .later [] [.data] true (true, "17efdc352ec3d0b200996e0ee9810004bcdd160069ab220330ace2cdfbaefea9") false over (fun _ h => by cases h) (by kernel_rfl) (fun _ h => by cases h) growTrees_row_tie rfl ⟨rfl, rfl⟩ (by kernel_rfl) rfl
  (fun f fn hf hfn => by
   obtain rfl : f = 4 := Option.some.inj ((show Tryz.prog.funcNamed "dendron/dendronlaw26.GrowTrees" = some 4 by kernel_rfl).symm.trans hf) |>.symm
   obtain rfl : fn = Tryz.f4 := (Option.some.inj (Tryz.func4.symm.trans hfn)).symm
   exact ⟨by kernel_rfl, fun j t ht => by
    rw [Tryz.params4] at ht
    have hm : t ∈ [25, 27] := by simpa using Array.mem_of_getElem? ht
    have hall : ([25, 27].all fun u => !Tryz.prog.wantsStandIn u) = true := by kernel_rfl
    exact (show Tryz.prog.wantsStandIn t = false by simpa using List.all_eq_true.1 hall t hm)⟩)
  (by kernel_rfl)
#print axioms proved
end Go.Proofs.YtmdlpmhkpnobeaaGreatDoor.growTrees
namespace Go.Proofs.YtmdlpmhkpnobeaaGreatDoor
theorem growTrees_holds : Rows.GrowTreesCardSaid := growTrees.proved
end Go.Proofs.YtmdlpmhkpnobeaaGreatDoor
