/- Proved: It shows that the regions of a tree's leaves in any box have just the rows of the box that go there: each row of the box is in one, that of its leaf, and each region has a row. No conditions. -/
import Derived.Test.YtomicjfjbfkikaaGreatDoorBExtremeRegions5
import Derived.Test.YtomicjfjbfkikaaGreatDoorChecked
import Derived.KernelRfl
import Derived.Test.YtomicjfjbfkikaaGreatDoorRows
import Derived.WalkKit
import Derived.ProofKit
import Derived.OpenShut
import Derived.ShutString
import Derived.ChangeOld
import Derived.Below
import Derived.SizedLaws
import Derived.Test.YtomicjfjbfkikaaGreatDoorCards
import Derived.Test.YtomicjfjbfkikaaGreatDoorTie
import Derived.LaidMore
import Derived.Lay
import Derived.SevenTiedAt
import Derived.Stop.Joined
import Derived.Handed
import Derived.LaidLaws
set_option linter.unusedVariables false
set_option linter.unusedSimpArgs false
open List renaming getD_eq_getElem?_getD → za, take_of_length_le → zb, take_length → zf, getElem?_eq_getElem → zh, length_take → zi, length_append → zj, length_map → zm, replicate → zn, mem_cons_of_mem → zo, mem_cons_self → zr, length_replicate → zt, length_cons → zw, length_set → zx, mem_singleton → zA
open Bool renaming and_eq_true → zc, false_eq_true → zz
open Int renaming natCast_nonneg → zd, mul_le_mul_of_nonneg_right → zl, ofNat_zero → zy
open Option renaming map_eq_some_iff → ze, bind_eq_some_iff → zg, bind_some → zp
open Nat renaming le_refl → zk, mul_le_mul_right → zq, le_trans → zu, zero_add → zB
open Go
namespace Go.Pe
theorem fw6_sm {row : List RC} (hr : row.length ≤ maxL ∧ ∀ x ∈ row, OkC x) (n : Nat) : SmR (fw n row) 4 := (few_smR hr.2 n).mono (by omega)
theorem fw6_len (row : List RC) (n : Nat) : (fw n row).length ≤ n := by unfold fw; rw [zm]; exact List.length_take_le _ _
theorem leaves24_c {t : List RNd} {f : Int} (ht : t.length ≤ 1000) (hrg : t.any (bdR t.length f) = false) : ∀ (T : TT), UN t T → T.pre.length ≤ 1000 → R FF 278 [.l 14 (t.map eNd), (AV.i .i64 ((T.top : Int)))] = some (.own true 1 (T.lvs.map eX))
 | .lf a, h, hp => by
  have c1 : (a : Int) < (t.length : Int) := by have := h.1; omega
  have hl := h.2
  show R FF 278 [.l 14 (t.map eNd), (AV.i .i64 ((a : Int)))] = some (.own true 1 [[(AV.i .i64 ((a : Int)))]])
  rw [R_go FF F278 c278.eq_1]
  simp only [RB, RL, un, St.none, Nat.reduceEqDiff, Nat.reduceAdd, Nat.reduceMul, Nat.reduceMod, Nat.reduceLeDiff, Nat.reduceLT, Int.reduceLT, Int.reduceLE, Int.reduceEq, Int.reduceToNat, Int.reduceSub, Int.reduceNeg, Int.reduceAdd, ↓reduceIte, reduceCtorEq, pack, pid, parN, lid, chkK, apartV, Heap.none, c1, hl, n64, eNd_rules, eNd_row, zd, zf]
 | .nd a l r, h, hp => by
  obtain ⟨h1, h2, h3, h4, h5, h6⟩ := h
  have hlen : (TT.nd a l r).pre.length = r.pre.length + l.pre.length + 1 := by rw [TT.pre, zw, zj]
  have i1 := leaves24_c ht hrg l h5 (by omega)
  have i2 := leaves24_c ht hrg r h6 (by omega)
  have n1 := lvs_count l
  have n2 := lvs_count r
  have hrn := rng_of hrg (getD_mem' dNd h1) h2
  rw [show (l.top : Int) = (t.getD a dNd).lft by rw [h3]; omega] at i1
  rw [show (r.top : Int) = (t.getD a dNd).rgt by rw [h4]; omega] at i2
  rw [TT.lvs]
  show R FF 278 [.l 14 (t.map eNd), (AV.i .i64 ((a : Int)))] = _
  have c1 : (a : Int) < (t.length : Int) := by omega
  generalize l.lvs = A at *
  generalize r.lvs = B at *
  have b1 : (A.length + B.length) * 8 ≤ 140737488355328 := by omega
  have t1 := take_app9 A B
  rw [R_go FF F278 c278.eq_1]
  simp only [RB, RL, un, St.none, Nat.reduceEqDiff, Nat.reduceAdd, Nat.reduceMul, Nat.reduceMod, Nat.reduceLeDiff, Nat.reduceLT, Int.reduceLT, Int.reduceLE, Int.reduceEq, Int.reduceToNat, Int.reduceSub, Int.reduceNeg, Int.reduceAdd, ↓reduceIte, reduceCtorEq, pack, pid, parN, lid, chkK, apartV, Heap.none, c1, h2, i1, i2, n64, eNd_rules, eNd_row, eX_rules, eX_row, zd, b1, t1, zf, zm, List.drop_zero]
theorem regions24_l1 {t : List RNd} {b : List RS} {w : List RC} {G : List RG} {A : List Nat} {leaf : Int} {inn found : Bool} {i x : Nat} {xs : List Nat} (hA : A.length ≤ 1000) (hi : i < G.length) (hg : (G.getD i dG).1 = x) : ∀ (d n : Nat), n + d = A.length → (x :: xs).Sublist (A.drop n) →
  ∃ j, n ≤ j ∧ j < A.length ∧ xs.Sublist (A.drop (j + 1)) ∧
  LP FF [(0, 0), (1, 0), (2, 0), (7, 0), (9, 0), (10, 0), (12, 0), (13, 0), (14, 0), (15, 0)] [(0, 0), (1, 0), (2, 0), (7, 0), (9, 0), (10, 0), (12, 0), (13, 0), (14, 0), (15, 0)] b269_1 [.l 14 (t.map eNd), .l 9 (b.map eS), .l 4 (w.map eC), .l 5 (G.map eG), .b inn, (AV.i .i64 leaf), .l 1 (A.map eX), (AV.i .i64 ((n : Int))), .b found, (AV.i .i64 ((i : Int)))] =
   some (.exit 2, [.l 14 (t.map eNd), .l 9 (b.map eS), .l 4 (w.map eC), .l 5 (G.map eG), .b inn, (AV.i .i64 leaf), .l 1 (A.map eX), (AV.i .i64 ((j : Int))), .b found, (AV.i .i64 ((i : Int)))]) := by
 intro d
 induction d with
 | zero =>
  intro n hn hs
  rw [List.drop_of_length_le (by omega)] at hs
  cases hs
 | succ d ih =>
  intro n hn hs
  have hlt : n < A.length := by omega
  have c1 : (n : Int) < (A.length : Int) := by omega
  have c2 : (i : Int) < (G.length : Int) := by omega
  have e2 : IntKind.i64.wrap ((n : Int) + 1) = ((n + 1 : Nat) : Int) := w64succ (by omega)
  rw [drop_getD 0 hlt] at hs
  by_cases hx : A.getD n 0 = x
  ·refine ⟨n, zk _, hlt, ?_, ?_⟩
   ·rw [hx] at hs
    exact List.cons_sublist_cons.1 hs
   ·have c3 : ((A.getD n 0 : Nat) : Int) = (x : Int) := by rw [hx]
    rw [LP_go FF b269_1.eq_1]
    simp only [RB, RL, un, St.none, Nat.reduceEqDiff, Nat.reduceAdd, Nat.reduceMul, Nat.reduceMod, Nat.reduceLeDiff, Nat.reduceLT, Int.reduceLT, Int.reduceLE, Int.reduceEq, Int.reduceToNat, Int.reduceSub, Int.reduceNeg, Int.reduceAdd, ↓reduceIte, reduceCtorEq, pack, pid, parN, lid, chkK, apartV, Heap.none, c1, c2, c3, hg, n64, eNd_rules, eNd_row, eX_rules, eX_row, eG_rules, eG_row, eS_rules, eS_row, eC_rules, eC_row, zd, eq_self]
  ·have hs2 : (x :: xs).Sublist (A.drop (n + 1)) := by
    cases hs with
    | cons _ h => exact h
    | cons_cons _ h => exact (hx rfl).elim
   obtain ⟨j, j1, j2, j3, j4⟩ := ih (n + 1) (by omega) hs2
   refine ⟨j, by omega, j2, j3, ?_⟩
   have c3 : ¬ ((A.getD n 0 : Nat) : Int) = (x : Int) := fun h => hx (Int.ofNat.inj h)
   rw [LP_go FF b269_1.eq_1]
   simp only [RB, RL, un, St.none, Nat.reduceEqDiff, Nat.reduceAdd, Nat.reduceMul, Nat.reduceMod, Nat.reduceLeDiff, Nat.reduceLT, Int.reduceLT, Int.reduceLE, Int.reduceEq, Int.reduceToNat, Int.reduceSub, Int.reduceNeg, Int.reduceAdd, ↓reduceIte, reduceCtorEq, pack, pid, parN, lid, chkK, apartV, Heap.none, c1, c2, c3, e2, hg, n64, eNd_rules, eNd_row, eX_rules, eX_row, eG_rules, eG_row, eS_rules, eS_row, eC_rules, eC_row, zd]
   exact j4
structure RgOk (t : List RNd) (b : List RS) (w : List RC) (leaf : Int) (T : TT) (x : Nat × List RS) : Prop where
 lt : x.1 < t.length
 len : x.2.length = b.length
 sm : SmB x.2 4
 nv : vF x.2 0 x.2.length = false
 hin : inB x.2 w = decide ((x.1 : Int) = leaf)
 rin : inB b (rB x.2 x.2.length) = true
 rgl : gl t (rB x.2 x.2.length) T = x.1
theorem regions24_l0 {t : List RNd} {b : List RS} {w : List RC} {V : List (Nat × List RS)} {A : List Nat} {leaf : Int} {inn : Bool} {T : TT} (ht : t.length ≤ 1000) (hs : SmT t 4) (hT : GT t ((b.length : Nat) : Int) T) (hb : b.length ≤ 1000) (hB : SmB b 4) (hw : SmR w 4) (hwl : w.length ≤ 1000)
  (hA : A.length ≤ 1000) (hVl : V.length ≤ 1000) (hV : ∀ x ∈ V, RgOk t b w leaf T x) : ∀ (d i n : Nat) (found : Bool), i + d = V.length → n ≤ A.length → ((V.drop i).map (·.1)).Sublist (A.drop n) →
  LP FF [(0, 0), (1, 0), (2, 0), (7, 0), (9, 0), (10, 0), (12, 0), (13, 0), (14, 0), (15, 0)] [(6, 0), (9, 0), (14, 0)] b269_0 [.l 14 (t.map eNd), .l 9 (b.map eS), .l 4 (w.map eC), .l 5 ((V.map (mkG t)).map eG), .b inn, (AV.i .i64 leaf), .l 1 (A.map eX), (AV.i .i64 ((n : Int))), .b found, (AV.i .i64 ((i : Int)))] =
   some (.exit 0, [.junk, .b inn, .b (found || (V.drop i).any fun x => decide ((x.1 : Int) = leaf))]) := by
 have hGl : (V.map (mkG t)).length = V.length := zm ..
 intro d
 induction d with
 | zero =>
  intro i n found hi hn hsub
  have c1 : ¬ (i : Int) < ((V.map (mkG t)).length : Int) := by omega
  rw [List.drop_of_length_le (by omega), List.any_nil, Bool.or_false]
  generalize V.map (mkG t) = G at *
  rw [LP_go FF b269_0.eq_1]
  simp only [RB, RL, un, St.none, Nat.reduceEqDiff, Nat.reduceAdd, Nat.reduceMul, Nat.reduceMod, Nat.reduceLeDiff, Nat.reduceLT, Int.reduceLT, Int.reduceLE, Int.reduceEq, Int.reduceToNat, Int.reduceSub, Int.reduceNeg, Int.reduceAdd, ↓reduceIte, reduceCtorEq, pack, pid, parN, lid, chkK, apartV, Heap.none, c1, eNd_rules, eNd_row, eX_rules, eX_row, eG_rules, eG_row, eS_rules, eS_row, eC_rules, eC_row]
 | succ d ih =>
  intro i n found hi hn hsub
  have hlt : i < V.length := by omega
  have hmem := getD_mem' (0, []) hlt
  have hx := hV _ hmem
  have hdr : V.drop i = V.getD i (0, []) :: V.drop (i + 1) := drop_getD _ hlt
  have hg : (V.map (mkG t)).getD i dG = mkG t (V.getD i (0, [])) := by
   rw [za, List.getElem?_map, za, zh hlt]; rfl
  rw [hdr] at hsub ⊢
  rw [List.map_cons] at hsub
  obtain ⟨x, hx'⟩ : ∃ x, V.getD i (0, []) = x := ⟨_, rfl⟩
  rw [hx'] at hx hg hsub ⊢
  obtain ⟨j, j1, j2, j3, l1⟩ := regions24_l1 (t := t) (b := b) (w := w) (G := V.map (mkG t)) (A := A) (leaf := leaf) (inn := inn) (found := found) (i := i) (x := x.1) (xs := (V.drop (i + 1)).map (·.1)) hA (by omega) (by rw [hg]; rfl) (A.length - n) n (by omega) hsub
  have h9 := ih (i + 1) (j + 1) (found || decide ((x.1 : Int) = leaf)) (by omega) (by omega) j3
  rw [Bool.or_assoc] at h9
  rw [List.any_cons]
  have hval := (hs _ (getD_mem' dNd hx.lt)).2.2
  have hvs := vQ_sq hval (by omega)
  have f1 := is10_c (x := vQ (t.getD x.1 dNd).val) (q := (t.getD x.1 dNd).val.1) (l := (t.getD x.1 dNd).val.2.1) (d := (t.getD x.1 dNd).val.2.2) (k := 4) (by omega) (by omega) hvs hval
  rw [show qv (t.getD x.1 dNd).val.1 (t.getD x.1 dNd).val.2.1 (t.getD x.1 dNd).val.2.2 = vQ (t.getD x.1 dNd).val from rfl, decide_eq_true rfl] at f1
  have f2 := holds24_c (b := x.2) (r := w) (k := 4) (by omega) (by omega) hx.sm hw
  rw [hx.hin] at f2
  have f3 := row_c (b := x.2) (k := 4) (by omega) (by omega) (by have := hx.len; omega) hx.sm hx.nv
  have hrl : (rB x.2 x.2.length).length = b.length := by rw [rB_len, hx.len]
  have hrs := rB_sm (b := x.2) (k := 4) (by omega) hx.sm
  have f4 := holds24_c (b := b) (r := rB x.2 x.2.length) (k := 6) (by omega) (by omega) (hB.mono (by omega)) hrs
  rw [hx.rin] at f4
  obtain ⟨P, p1, p2, p3, p4⟩ := way10_c (t := t) (row := rB x.2 x.2.length) (f := ((b.length : Nat) : Int)) (k := 6) (by omega) (by omega) (hs.mono (by omega)) hrs hT.rg (by rw [hrl]) t.length 0 x.1 (by omega) (by have := hx.lt; omega) (by rw [un_walk' _ hT.top hT.un hT.le, hx.rgl])
  rw [zy] at p4
  have e3 : IntKind.i64.wrap ((P.length : Int) - 1) = ((P.length - 1 : Nat) : Int) := by rw [w64 (by omega) (by omega)]; omega
  have c4 : ((P.length - 1 : Nat) : Int) < (P.length : Int) := by omega
  have c1 : (i : Int) < ((V.map (mkG t)).length : Int) := by omega
  have c2 : ¬ (A.length : Int) ≤ (j : Int) := by omega
  have c3 : (x.1 : Int) < (t.length : Int) := by have := hx.lt; omega
  have c5 : (x.2.length : Int) = (b.length : Int) := by rw [hx.len]
  have e1 : IntKind.i64.wrap ((j : Int) + 1) = ((j + 1 : Nat) : Int) := w64succ (by omega)
  have e2 : IntKind.i64.wrap ((i : Int) + 1) = ((i + 1 : Nat) : Int) := w64succ (by omega)
  rw [show mkG t x = (x.1, vQ (t.getD x.1 dNd).val, x.2) from rfl] at hg
  have p3' : ((P.getD (P.length - 1) 0 : Nat) : Int) = (x.1 : Int) := by rw [p3]
  generalize rB x.2 x.2.length = r at *
  generalize vQ (t.getD x.1 dNd).val = v at *
  generalize V.map (mkG t) = G at *
  obtain ⟨a, B⟩ := x
  simp only at *
  by_cases hlf : (a : Int) = leaf
  ·rw [decide_eq_true hlf] at f2 h9 ⊢
   subst hlf
   cases found
   ·rw [LP_go FF b269_0.eq_1]
    simp only [RB, RL, un, St.none, Nat.reduceEqDiff, Nat.reduceAdd, Nat.reduceMul, Nat.reduceMod, Nat.reduceLeDiff, Nat.reduceLT, Int.reduceLT, Int.reduceLE, Int.reduceEq, Int.reduceToNat, Int.reduceSub, Int.reduceNeg, Int.reduceAdd, ↓reduceIte, reduceCtorEq, pack, pid, parN, lid, chkK, apartV, Heap.none, c1, c2, c3, c4, c5, e1, e2, e3, hg, l1, f1, f2, f3, f4, p4, p3', n64, eNd_rules, eNd_row, eX_rules, eX_row, eG_rules, eG_row, eS_rules, eS_row, eC_rules, eC_row, zd, eq_self]
    exact h9
   ·rw [LP_go FF b269_0.eq_1]
    simp only [RB, RL, un, St.none, Nat.reduceEqDiff, Nat.reduceAdd, Nat.reduceMul, Nat.reduceMod, Nat.reduceLeDiff, Nat.reduceLT, Int.reduceLT, Int.reduceLE, Int.reduceEq, Int.reduceToNat, Int.reduceSub, Int.reduceNeg, Int.reduceAdd, ↓reduceIte, reduceCtorEq, pack, pid, parN, lid, chkK, apartV, Heap.none, c1, c2, c3, c4, c5, e1, e2, e3, hg, l1, f1, f2, f3, f4, p4, p3', n64, eNd_rules, eNd_row, eX_rules, eX_row, eG_rules, eG_row, eS_rules, eS_row, eC_rules, eC_row, zd, eq_self]
    exact h9
  ·rw [decide_eq_false hlf] at f2 h9 ⊢
   cases found
   ·rw [LP_go FF b269_0.eq_1]
    simp only [RB, RL, un, St.none, Nat.reduceEqDiff, Nat.reduceAdd, Nat.reduceMul, Nat.reduceMod, Nat.reduceLeDiff, Nat.reduceLT, Int.reduceLT, Int.reduceLE, Int.reduceEq, Int.reduceToNat, Int.reduceSub, Int.reduceNeg, Int.reduceAdd, ↓reduceIte, reduceCtorEq, pack, pid, parN, lid, chkK, apartV, Heap.none, c1, c2, c3, c4, c5, e1, e2, e3, hg, l1, f1, f2, f3, f4, p4, p3', hlf, n64, eNd_rules, eNd_row, eX_rules, eX_row, eG_rules, eG_row, eS_rules, eS_row, eC_rules, eC_row, zd, eq_self]
    exact h9
   ·rw [LP_go FF b269_0.eq_1]
    simp only [RB, RL, un, St.none, Nat.reduceEqDiff, Nat.reduceAdd, Nat.reduceMul, Nat.reduceMod, Nat.reduceLeDiff, Nat.reduceLT, Int.reduceLT, Int.reduceLE, Int.reduceEq, Int.reduceToNat, Int.reduceSub, Int.reduceNeg, Int.reduceAdd, ↓reduceIte, reduceCtorEq, pack, pid, parN, lid, chkK, apartV, Heap.none, c1, c2, c3, c4, c5, e1, e2, e3, hg, l1, f1, f2, f3, f4, p4, p3', hlf, n64, eNd_rules, eNd_row, eX_rules, eX_row, eG_rules, eG_row, eS_rules, eS_row, eC_rules, eC_row, zd, eq_self]
    exact h9
theorem few07t_c {t : List RNd} (h : t.length ≤ maxL ∧ ∀ a ∈ t, OkNd a) : R FF 209 [.agg [(AV.i .i64 0), .l 1 [[.l 14 (t.map eNd)]]]] = some (.agg [(AV.i .i64 0), .l 1 [[.l 14 ((fT7 t).map eNd)]]]) :=
 few07_c (m := (0, [t])) ⟨by show I64 0; exact ⟨by omega, by omega⟩, by show 1 ≤ maxL; decide, fun s hs => by rw [List.mem_singleton.1 hs]; exact h⟩
theorem regV_ok {t : List RNd} {B : List RS} {w : List RC} {T : TT} {leaf : Int} (hs : SmT t 4) (hB : SmB B 4) (hT : GT t ((B.length : Nat) : Int) T) (hvo : vF B 0 B.length = false) (hleaf : leaf = if inB B w then ((gl t w T : Nat) : Int) else -1) : ∀ x ∈ regV t T (cB B), RgOk t B w leaf T x := by
 intro x hx
 have hl : (((cB B).length : Nat) : Int) = ((B.length : Nat) : Int) := by rw [cB_len]
 have h1 := un_lvs T hT.un _ (reg_mem T _ hx)
 have h2 := reg_sm (k := 4) (by omega) hT.rg hs T _ hl hT.un (cB_sm (by omega) hB) (cB_void hvo) hx
 have h3 := reg_in hT.rg w T _ hl hT.un hT.nd hx
 have h4 := (reg_in hT.rg (rB x.2 x.2.length) T _ hl hT.un hT.nd hx).1 (rB_in h2.2)
 rw [cB_in] at h3 h4
 refine ⟨h1.1, by rw [reg_len T _ hx, cB_len], h2.1, h2.2, ?_, h4.1, h4.2⟩
 rw [Bool.eq_iff_iff, h3, decide_eq_true_eq, hleaf]
 cases hi : inB B w with
 | true =>
  rw [if_pos rfl]
  exact ⟨fun h => by rw [h.2], fun h => ⟨rfl, (Int.ofNat.inj h).symm⟩⟩
 | false =>
  rw [if_neg (show ¬ false = true by decide)]
  exact ⟨fun h => (by cases h.1), fun h => by omega⟩
theorem regV_any {t : List RNd} {B : List RS} {w : List RC} {T : TT} {leaf : Int} (hT : GT t ((B.length : Nat) : Int) T) (hleaf : leaf = if inB B w then ((gl t w T : Nat) : Int) else -1) : ((regV t T (cB B)).any fun x => decide ((x.1 : Int) = leaf)) = inB B w := by
 have hl : (((cB B).length : Nat) : Int) = ((B.length : Nat) : Int) := by rw [cB_len]
 rw [Bool.eq_iff_iff, List.any_eq_true, hleaf]
 cases hi : inB B w with
 | true =>
  rw [if_pos rfl]
  obtain ⟨C, hC⟩ := reg_has hT.rg w T _ hl hT.un (by rw [cB_in]; exact hi)
  exact ⟨fun _ => rfl, fun _ => ⟨_, hC, decide_eq_true rfl⟩⟩
 | false =>
  rw [if_neg (show ¬ false = true by decide)]
  exact ⟨fun ⟨x, _, hx⟩ => by have := of_decide_eq_true hx; omega, fun h => (by cases h)⟩
theorem law_ExtremeRegions (t : List RNd) (ht : t.length ≤ maxL ∧ ∀ a ∈ t, OkNd a) (b : List RS) (hb : b.length ≤ maxL ∧ ∀ x ∈ b, OkS x) (row : List RC) (hr : row.length ≤ maxL ∧ ∀ x ∈ row, OkC x) :
  R FF 269 [.l 14 (t.map eNd), .l 9 (b.map eS), .l 4 (row.map eC)] = some (.b true) := by
 have f1 := few07t_c ht
 have f2 := bfew_c hb.2 hb.1
 rw [show (b.take 5).map t3S = fB9 b from rfl] at f2
 have f3 := few09_c (n := 6) (by omega) hr.2 hr.1
 rw [show (row.take 6).map t3 = fw 6 row from rfl] at f3
 have f3 : R FF 29 [.l 4 (row.map eC), (AV.i .i64 6)] = some (.l 4 ((fw 6 row).map eC)) := f3
 have hs := fT7_sm ht.2
 have hl := fT7_len t
 have hB := fB9_sm hb
 have hBl := fB9_len b
 have hw := fw6_sm hr 6
 have hwl := fw6_len row 6
 generalize fT7 t = t9 at *
 generalize fB9 b = B at *
 generalize fw 6 row = w at *
 obtain ⟨c, v1, v2⟩ := vtree_c (t := t9) (f := ((B.length : Nat) : Int)) (k := 4) (by omega) (by omega) (by omega) hs
 by_cases hv : VM (((B.length : Nat) : Int), [t9])
 ·have hc : c = true := v2.2 hv
  subst hc
  have hvt := hv.all t9 (List.mem_singleton.2 rfl)
  have h1 := vt_len hv t9 (List.mem_singleton.2 rfl)
  obtain ⟨T, hT⟩ := gt_of hvt h1
  have f4 := holds24_c (b := B) (r := w) (k := 4) (by omega) (by omega) hB hw
  have hpl := hT.le
  have f5 := leaves24_c (by omega) hT.rg T hT.un (by omega)
  rw [hT.top, zy] at f5
  have hlc := lvs_count T
  cases hvo : vF B 0 B.length with
  | true =>
   have hin : inB B w = false := by
    cases hi : inB B w with
    | false => rfl
    | true =>
     unfold inB at hi
     rw [zc, decide_eq_true_eq] at hi
     have h3 := hF_vF _ _ hi.2
     rw [hi.1] at hvo
     rw [hvo] at h3; cases h3
   rw [hin] at f4
   have f6 := Regions_void (k := 4) (by omega) (by omega) (by omega) (by omega) hs hB hv hvo
   have l0 := regions24_l0 (t := t9) (b := B) (w := w) (V := []) (A := T.lvs) (leaf := -1) (inn := false) (T := T) (by omega) hs hT (by omega) hB hw (by omega) (by omega) (by show 0 ≤ 1000; omega) (fun x hx => (List.not_mem_nil hx).elim) 0 0 0 false rfl (Nat.zero_le _) (List.nil_sublist _)
   rw [zy] at l0
   simp only [List.map_nil, List.drop_nil, List.any_nil, Bool.or_false] at l0
   generalize T.lvs = A at *
   rw [R_go FF F269 c269.eq_1]
   simp only [RB, RL, un, St.none, Nat.reduceEqDiff, Nat.reduceAdd, Nat.reduceMul, Nat.reduceMod, Nat.reduceLeDiff, Nat.reduceLT, Int.reduceLT, Int.reduceLE, Int.reduceEq, Int.reduceToNat, Int.reduceSub, Int.reduceNeg, Int.reduceAdd, ↓reduceIte, reduceCtorEq, pack, pid, parN, lid, chkK, apartV, Heap.none, f1, f2, f3, f4, f5, f6, v1, l0, awake24e, n64, eNd_rules, eNd_row, eX_rules, eX_row, eS_rules, eS_row, eC_rules, eC_row]
  | false =>
   have f6 := Regions_c (k := 4) (by omega) (by omega) (by omega) (by omega) hs hB hv hT hvo
   rw [show regG t9 T (cB B) = (regV t9 T (cB B)).map (mkG t9) from rfl] at f6
   have hgl := regG_len t9 T (cB B)
   have hVl : (regV t9 T (cB B)).length ≤ 1000 := zu (reg_count T (cB B)) (by omega)
   have hsub := reg_lvs (t := t9) T (cB B)
   cases hi : inB B w with
   | true =>
    rw [hi] at f4
    have hwb := (inB_iff.1 hi).1
    have hok := regV_ok (leaf := ((gl t9 w T : Nat) : Int)) hs hB hT hvo (by rw [hi, if_pos rfl])
    have hany := regV_any (leaf := ((gl t9 w T : Nat) : Int)) (w := w) hT (by rw [hi, if_pos rfl])
    rw [hi] at hany
    have l0 := regions24_l0 (V := regV t9 T (cB B)) (A := T.lvs) (inn := true) (by omega) hs hT (by omega) hB hw (by omega) (by omega) hVl hok (regV t9 T (cB B)).length 0 0 false (by omega) (Nat.zero_le _) (by rw [List.drop_zero, List.drop_zero]; exact hsub)
    rw [zy, List.drop_zero, hany, Bool.false_or] at l0
    obtain ⟨P, p1, p2, p3, p4⟩ := way10_c (t := t9) (row := w) (f := ((B.length : Nat) : Int)) (k := 4) (by omega) (by omega) hs hw hT.rg (by rw [hwb]) t9.length 0 (gl t9 w T) (by omega) (by omega) (un_walk' _ hT.top hT.un hT.le)
    rw [zy] at p4
    have e3 : IntKind.i64.wrap ((P.length : Int) - 1) = ((P.length - 1 : Nat) : Int) := by rw [w64 (by omega) (by omega)]; omega
    have c4 : ((P.length - 1 : Nat) : Int) < (P.length : Int) := by omega
    have p3' : P.getD (P.length - 1) 0 = gl t9 w T := p3
    generalize (regV t9 T (cB B)).map (mkG t9) = G at *
    generalize gl t9 w T = g at *
    generalize T.lvs = A at *
    rw [R_go FF F269 c269.eq_1]
    simp only [RB, RL, un, St.none, Nat.reduceEqDiff, Nat.reduceAdd, Nat.reduceMul, Nat.reduceMod, Nat.reduceLeDiff, Nat.reduceLT, Int.reduceLT, Int.reduceLE, Int.reduceEq, Int.reduceToNat, Int.reduceSub, Int.reduceNeg, Int.reduceAdd, ↓reduceIte, reduceCtorEq, pack, pid, parN, lid, chkK, apartV, Heap.none, f1, f2, f3, f4, f5, f6, v1, l0, p4, p3', e3, c4, awake24e, n64, eNd_rules, eNd_row, eX_rules, eX_row, eG_rules, eG_row, eS_rules, eS_row, eC_rules, eC_row, zd]
   | false =>
    rw [hi] at f4
    have hok := regV_ok (leaf := -1) hs hB hT hvo (w := w) (by rw [hi, if_neg (by decide)])
    have hany := regV_any (leaf := -1) (w := w) hT (by rw [hi, if_neg (by decide)])
    rw [hi] at hany
    have l0 := regions24_l0 (V := regV t9 T (cB B)) (A := T.lvs) (inn := false) (by omega) hs hT (by omega) hB hw (by omega) (by omega) hVl hok (regV t9 T (cB B)).length 0 0 false (by omega) (Nat.zero_le _) (by rw [List.drop_zero, List.drop_zero]; exact hsub)
    rw [zy, List.drop_zero, hany, Bool.false_or] at l0
    generalize (regV t9 T (cB B)).map (mkG t9) = G at *
    generalize T.lvs = A at *
    rw [R_go FF F269 c269.eq_1]
    simp only [RB, RL, un, St.none, Nat.reduceEqDiff, Nat.reduceAdd, Nat.reduceMul, Nat.reduceMod, Nat.reduceLeDiff, Nat.reduceLT, Int.reduceLT, Int.reduceLE, Int.reduceEq, Int.reduceToNat, Int.reduceSub, Int.reduceNeg, Int.reduceAdd, ↓reduceIte, reduceCtorEq, pack, pid, parN, lid, chkK, apartV, Heap.none, f1, f2, f3, f4, f5, f6, v1, l0, awake24e, n64, eNd_rules, eNd_row, eX_rules, eX_row, eG_rules, eG_row, eS_rules, eS_row, eC_rules, eC_row, zd]
 ·have hc : c = false := by
   cases c
   ·rfl
   ·exact (hv (v2.1 rfl)).elim
  subst hc
  have f6 := Regions_bad (k := 4) (by omega) (by omega) (by omega) hs hv
  rw [R_go FF F269 c269.eq_1]
  simp only [RB, RL, un, St.none, Nat.reduceEqDiff, Nat.reduceAdd, Nat.reduceMul, Nat.reduceMod, Nat.reduceLeDiff, Nat.reduceLT, Int.reduceLT, Int.reduceLE, Int.reduceEq, Int.reduceToNat, Int.reduceSub, Int.reduceNeg, Int.reduceAdd, ↓reduceIte, reduceCtorEq, pack, pid, parN, lid, chkK, apartV, Heap.none, f1, f2, f3, f6, v1, awake24e, n64, eNd_rules, eNd_row, eX_rules, eX_row, eS_rules, eS_row, eC_rules, eC_row]
open Go Go.Proofs
set_option maxRecDepth 100000
def tabs0 : List (Nat × List AV) := [(0, tab0)]
def FD : Nat → Option PF
 | 12 => some p12
 | 13 => some p13
 | 14 => some p14
 | 18 => some p18
 | 19 => some p19
 | 20 => some p20
 | 21 => some p21
 | 23 => some p23
 | 25 => some p25
 | 29 => some p29
 | 31 => some p31
 | 33 => some p33
 | 34 => some p34
 | 36 => some p36
 | 38 => some p38
 | 39 => some p39
 | 40 => some p40
 | 43 => some p43
 | 47 => some p47
 | 51 => some p51
 | 52 => some p52
 | 53 => some p53
 | 54 => some p54
 | 55 => some p55
 | 56 => some p56
 | 57 => some p57
 | 63 => some p63
 | 64 => some p64
 | 65 => some p65
 | 66 => some p66
 | 67 => some p67
 | 68 => some p68
 | 69 => some p69
 | 71 => some p71
 | 72 => some p72
 | 73 => some p73
 | 74 => some p74
 | 75 => some p75
 | 76 => some p76
 | 77 => some p77
 | 78 => some p78
 | 79 => some p79
 | 80 => some p80
 | 81 => some p81
 | 82 => some p82
 | 83 => some p83
 | 86 => some p86
 | 87 => some p87
 | 88 => some p88
 | 89 => some p89
 | 90 => some p90
 | 91 => some p91
 | 92 => some p92
 | 96 => some p96
 | 106 => some p106
 | 107 => some p107
 | 108 => some p108
 | 109 => some p109
 | 110 => some p110
 | 111 => some p111
 | 112 => some p112
 | 113 => some p113
 | 114 => some p114
 | 115 => some p115
 | 116 => some p116
 | 117 => some p117
 | 118 => some p118
 | 119 => some p119
 | 120 => some p120
 | 127 => some p127
 | 128 => some p128
 | 129 => some p129
 | 130 => some p130
 | 131 => some p131
 | 137 => some p137
 | 138 => some p138
 | 139 => some p139
 | 140 => some p140
 | 141 => some p141
 | 162 => some p162
 | 171 => some p171
 | 196 => some p196
 | 197 => some p197
 | 199 => some p199
 | 200 => some p200
 | 206 => some p206
 | 209 => some p209
 | 211 => some p211
 | 215 => some p215
 | 216 => some p216
 | 224 => some p224
 | 225 => some p225
 | 226 => some p226
 | 229 => some p229
 | 231 => some p231
 | 234 => some p234
 | 236 => some p236
 | 237 => some p237
 | 240 => some p240
 | 241 => some p241
 | 242 => some p242
 | 243 => some p243
 | 244 => some p244
 | 248 => some p248
 | 249 => some p249
 | 250 => some p250
 | 251 => some p251
 | 252 => some p252
 | 253 => some p253
 | 257 => some p257
 | 258 => some p258
 | 259 => some p259
 | 269 => some p269
 | 277 => some p277
 | 278 => some p278
 | 285 => some p285
 | _ => none
def nuD : Nat → Nat
 | 12 => 34
 | 13 => 57
 | 14 => 47
 | 18 => 16
 | 19 => 62
 | 20 => 61
 | 21 => 19
 | 23 => 35
 | 25 => 45
 | 29 => 6
 | 31 => 72
 | 33 => 25
 | 34 => 5
 | 36 => 63
 | 38 => 53
 | 39 => 89
 | 40 => 80
 | 43 => 84
 | 47 => 83
 | 51 => 18
 | 52 => 14
 | 53 => 33
 | 54 => 56
 | 55 => 55
 | 56 => 23
 | 57 => 28
 | 63 => 36
 | 64 => 76
 | 65 => 77
 | 66 => 78
 | 67 => 48
 | 68 => 22
 | 69 => 54
 | 71 => 90
 | 72 => 94
 | 73 => 40
 | 74 => 17
 | 75 => 59
 | 76 => 92
 | 77 => 93
 | 78 => 29
 | 79 => 51
 | 80 => 95
 | 81 => 60
 | 82 => 39
 | 83 => 46
 | 86 => 75
 | 87 => 86
 | 88 => 81
 | 89 => 109
 | 90 => 87
 | 91 => 79
 | 92 => 70
 | 96 => 44
 | 106 => 58
 | 107 => 98
 | 108 => 99
 | 109 => 100
 | 110 => 101
 | 111 => 102
 | 112 => 103
 | 113 => 104
 | 114 => 71
 | 115 => 91
 | 116 => 107
 | 117 => 108
 | 118 => 82
 | 119 => 97
 | 120 => 96
 | 127 => 110
 | 128 => 111
 | 129 => 112
 | 130 => 105
 | 131 => 106
 | 137 => 113
 | 138 => 114
 | 139 => 115
 | 140 => 116
 | 141 => 117
 | 162 => 27
 | 171 => 13
 | 196 => 24
 | 197 => 26
 | 199 => 9
 | 200 => 10
 | 206 => 11
 | 209 => 4
 | 211 => 21
 | 215 => 31
 | 216 => 32
 | 224 => 41
 | 225 => 42
 | 226 => 43
 | 229 => 37
 | 231 => 30
 | 234 => 15
 | 236 => 73
 | 237 => 38
 | 240 => 49
 | 241 => 50
 | 242 => 52
 | 243 => 74
 | 244 => 8
 | 248 => 64
 | 249 => 65
 | 250 => 66
 | 251 => 67
 | 252 => 68
 | 253 => 69
 | 257 => 85
 | 258 => 88
 | 259 => 20
 | 269 => 3
 | 277 => 7
 | 278 => 12
 | 285 => 71
 | _ => 0
theorem M12 : fnOk Tryz.prog (FD, nuD) tabs0 12 p12 = true := by kernel_rfl
theorem M13 : fnOk Tryz.prog (FD, nuD) tabs0 13 p13 = true := by kernel_rfl
theorem M14 : fnOk Tryz.prog (FD, nuD) tabs0 14 p14 = true := by kernel_rfl
theorem M18 : fnOk Tryz.prog (FD, nuD) tabs0 18 p18 = true := by kernel_rfl
theorem M19 : fnOk Tryz.prog (FD, nuD) tabs0 19 p19 = true := by kernel_rfl
theorem M20 : fnOk Tryz.prog (FD, nuD) tabs0 20 p20 = true := by kernel_rfl
theorem M21 : fnOk Tryz.prog (FD, nuD) tabs0 21 p21 = true := by kernel_rfl
theorem M23 : fnOk Tryz.prog (FD, nuD) tabs0 23 p23 = true := by kernel_rfl
theorem M25 : fnOk Tryz.prog (FD, nuD) tabs0 25 p25 = true := by kernel_rfl
theorem M29 : fnOk Tryz.prog (FD, nuD) tabs0 29 p29 = true := by kernel_rfl
theorem M31 : fnOk Tryz.prog (FD, nuD) tabs0 31 p31 = true := by kernel_rfl
theorem M33 : fnOk Tryz.prog (FD, nuD) tabs0 33 p33 = true := by kernel_rfl
theorem M34 : fnOk Tryz.prog (FD, nuD) tabs0 34 p34 = true := by kernel_rfl
theorem M36 : fnOk Tryz.prog (FD, nuD) tabs0 36 p36 = true := by kernel_rfl
theorem M38 : fnOk Tryz.prog (FD, nuD) tabs0 38 p38 = true := by kernel_rfl
theorem M39 : fnOk Tryz.prog (FD, nuD) tabs0 39 p39 = true := by kernel_rfl
theorem M40 : fnOk Tryz.prog (FD, nuD) tabs0 40 p40 = true := by kernel_rfl
theorem M43 : fnOk Tryz.prog (FD, nuD) tabs0 43 p43 = true := by kernel_rfl
theorem M47 : fnOk Tryz.prog (FD, nuD) tabs0 47 p47 = true := by kernel_rfl
theorem M51 : fnOk Tryz.prog (FD, nuD) tabs0 51 p51 = true := by kernel_rfl
theorem M52 : fnOk Tryz.prog (FD, nuD) tabs0 52 p52 = true := by kernel_rfl
theorem M53 : fnOk Tryz.prog (FD, nuD) tabs0 53 p53 = true := by kernel_rfl
theorem M54 : fnOk Tryz.prog (FD, nuD) tabs0 54 p54 = true := by kernel_rfl
theorem M55 : fnOk Tryz.prog (FD, nuD) tabs0 55 p55 = true := by kernel_rfl
theorem M56 : fnOk Tryz.prog (FD, nuD) tabs0 56 p56 = true := by kernel_rfl
theorem M57 : fnOk Tryz.prog (FD, nuD) tabs0 57 p57 = true := by kernel_rfl
theorem M63 : fnOk Tryz.prog (FD, nuD) tabs0 63 p63 = true := by kernel_rfl
theorem M64 : fnOk Tryz.prog (FD, nuD) tabs0 64 p64 = true := by kernel_rfl
theorem M65 : fnOk Tryz.prog (FD, nuD) tabs0 65 p65 = true := by kernel_rfl
theorem M66 : fnOk Tryz.prog (FD, nuD) tabs0 66 p66 = true := by kernel_rfl
theorem M67 : fnOk Tryz.prog (FD, nuD) tabs0 67 p67 = true := by kernel_rfl
theorem M68 : fnOk Tryz.prog (FD, nuD) tabs0 68 p68 = true := by kernel_rfl
theorem M69 : fnOk Tryz.prog (FD, nuD) tabs0 69 p69 = true := by kernel_rfl
theorem M71 : fnOk Tryz.prog (FD, nuD) tabs0 71 p71 = true := by kernel_rfl
theorem M72 : fnOk Tryz.prog (FD, nuD) tabs0 72 p72 = true := by kernel_rfl
theorem M73 : fnOk Tryz.prog (FD, nuD) tabs0 73 p73 = true := by kernel_rfl
theorem M74 : fnOk Tryz.prog (FD, nuD) tabs0 74 p74 = true := by kernel_rfl
theorem M75 : fnOk Tryz.prog (FD, nuD) tabs0 75 p75 = true := by kernel_rfl
theorem M76 : fnOk Tryz.prog (FD, nuD) tabs0 76 p76 = true := by kernel_rfl
theorem M77 : fnOk Tryz.prog (FD, nuD) tabs0 77 p77 = true := by kernel_rfl
theorem M78 : fnOk Tryz.prog (FD, nuD) tabs0 78 p78 = true := by kernel_rfl
theorem M79 : fnOk Tryz.prog (FD, nuD) tabs0 79 p79 = true := by kernel_rfl
theorem M80 : fnOk Tryz.prog (FD, nuD) tabs0 80 p80 = true := by kernel_rfl
theorem M81 : fnOk Tryz.prog (FD, nuD) tabs0 81 p81 = true := by kernel_rfl
theorem M82 : fnOk Tryz.prog (FD, nuD) tabs0 82 p82 = true := by kernel_rfl
theorem M83 : fnOk Tryz.prog (FD, nuD) tabs0 83 p83 = true := by kernel_rfl
theorem M86 : fnOk Tryz.prog (FD, nuD) tabs0 86 p86 = true := by kernel_rfl
theorem M87 : fnOk Tryz.prog (FD, nuD) tabs0 87 p87 = true := by kernel_rfl
theorem M88 : fnOk Tryz.prog (FD, nuD) tabs0 88 p88 = true := by kernel_rfl
theorem M89 : fnOk Tryz.prog (FD, nuD) tabs0 89 p89 = true := by kernel_rfl
theorem M90 : fnOk Tryz.prog (FD, nuD) tabs0 90 p90 = true := by kernel_rfl
theorem M91 : fnOk Tryz.prog (FD, nuD) tabs0 91 p91 = true := by kernel_rfl
theorem M92 : fnOk Tryz.prog (FD, nuD) tabs0 92 p92 = true := by kernel_rfl
theorem M96 : fnOk Tryz.prog (FD, nuD) tabs0 96 p96 = true := by kernel_rfl
theorem M106 : fnOk Tryz.prog (FD, nuD) tabs0 106 p106 = true := by kernel_rfl
theorem M107 : fnOk Tryz.prog (FD, nuD) tabs0 107 p107 = true := by kernel_rfl
theorem M108 : fnOk Tryz.prog (FD, nuD) tabs0 108 p108 = true := by kernel_rfl
theorem M109 : fnOk Tryz.prog (FD, nuD) tabs0 109 p109 = true := by kernel_rfl
theorem M110 : fnOk Tryz.prog (FD, nuD) tabs0 110 p110 = true := by kernel_rfl
theorem M111 : fnOk Tryz.prog (FD, nuD) tabs0 111 p111 = true := by kernel_rfl
theorem M112 : fnOk Tryz.prog (FD, nuD) tabs0 112 p112 = true := by kernel_rfl
theorem M113 : fnOk Tryz.prog (FD, nuD) tabs0 113 p113 = true := by kernel_rfl
theorem M114 : fnOk Tryz.prog (FD, nuD) tabs0 114 p114 = true := by kernel_rfl
theorem M115 : fnOk Tryz.prog (FD, nuD) tabs0 115 p115 = true := by kernel_rfl
theorem M116 : fnOk Tryz.prog (FD, nuD) tabs0 116 p116 = true := by kernel_rfl
theorem M117 : fnOk Tryz.prog (FD, nuD) tabs0 117 p117 = true := by kernel_rfl
theorem M118 : fnOk Tryz.prog (FD, nuD) tabs0 118 p118 = true := by kernel_rfl
theorem M119 : fnOk Tryz.prog (FD, nuD) tabs0 119 p119 = true := by kernel_rfl
theorem M120 : fnOk Tryz.prog (FD, nuD) tabs0 120 p120 = true := by kernel_rfl
theorem M127 : fnOk Tryz.prog (FD, nuD) tabs0 127 p127 = true := by kernel_rfl
theorem M128 : fnOk Tryz.prog (FD, nuD) tabs0 128 p128 = true := by kernel_rfl
theorem M129 : fnOk Tryz.prog (FD, nuD) tabs0 129 p129 = true := by kernel_rfl
theorem M130 : fnOk Tryz.prog (FD, nuD) tabs0 130 p130 = true := by kernel_rfl
theorem M131 : fnOk Tryz.prog (FD, nuD) tabs0 131 p131 = true := by kernel_rfl
theorem M137 : fnOk Tryz.prog (FD, nuD) tabs0 137 p137 = true := by kernel_rfl
theorem M138 : fnOk Tryz.prog (FD, nuD) tabs0 138 p138 = true := by kernel_rfl
theorem M139 : fnOk Tryz.prog (FD, nuD) tabs0 139 p139 = true := by kernel_rfl
theorem M140 : fnOk Tryz.prog (FD, nuD) tabs0 140 p140 = true := by kernel_rfl
theorem M141 : fnOk Tryz.prog (FD, nuD) tabs0 141 p141 = true := by kernel_rfl
theorem M162 : fnOk Tryz.prog (FD, nuD) tabs0 162 p162 = true := by kernel_rfl
theorem M171 : fnOk Tryz.prog (FD, nuD) tabs0 171 p171 = true := by kernel_rfl
theorem M196 : fnOk Tryz.prog (FD, nuD) tabs0 196 p196 = true := by kernel_rfl
theorem M197 : fnOk Tryz.prog (FD, nuD) tabs0 197 p197 = true := by kernel_rfl
theorem M199 : fnOk Tryz.prog (FD, nuD) tabs0 199 p199 = true := by kernel_rfl
theorem M200 : fnOk Tryz.prog (FD, nuD) tabs0 200 p200 = true := by kernel_rfl
theorem M206 : fnOk Tryz.prog (FD, nuD) tabs0 206 p206 = true := by kernel_rfl
theorem M209 : fnOk Tryz.prog (FD, nuD) tabs0 209 p209 = true := by kernel_rfl
theorem M211 : fnOk Tryz.prog (FD, nuD) tabs0 211 p211 = true := by kernel_rfl
theorem M215 : fnOk Tryz.prog (FD, nuD) tabs0 215 p215 = true := by kernel_rfl
theorem M216 : fnOk Tryz.prog (FD, nuD) tabs0 216 p216 = true := by kernel_rfl
theorem M224 : fnOk Tryz.prog (FD, nuD) tabs0 224 p224 = true := by kernel_rfl
theorem M225 : fnOk Tryz.prog (FD, nuD) tabs0 225 p225 = true := by kernel_rfl
theorem M226 : fnOk Tryz.prog (FD, nuD) tabs0 226 p226 = true := by kernel_rfl
theorem M229 : fnOk Tryz.prog (FD, nuD) tabs0 229 p229 = true := by kernel_rfl
theorem M231 : fnOk Tryz.prog (FD, nuD) tabs0 231 p231 = true := by kernel_rfl
theorem M234 : fnOk Tryz.prog (FD, nuD) tabs0 234 p234 = true := by kernel_rfl
theorem M236 : fnOk Tryz.prog (FD, nuD) tabs0 236 p236 = true := by kernel_rfl
theorem M237 : fnOk Tryz.prog (FD, nuD) tabs0 237 p237 = true := by kernel_rfl
theorem M240 : fnOk Tryz.prog (FD, nuD) tabs0 240 p240 = true := by kernel_rfl
theorem M241 : fnOk Tryz.prog (FD, nuD) tabs0 241 p241 = true := by kernel_rfl
theorem M242 : fnOk Tryz.prog (FD, nuD) tabs0 242 p242 = true := by kernel_rfl
theorem M243 : fnOk Tryz.prog (FD, nuD) tabs0 243 p243 = true := by kernel_rfl
theorem M244 : fnOk Tryz.prog (FD, nuD) tabs0 244 p244 = true := by kernel_rfl
theorem M248 : fnOk Tryz.prog (FD, nuD) tabs0 248 p248 = true := by kernel_rfl
theorem M249 : fnOk Tryz.prog (FD, nuD) tabs0 249 p249 = true := by kernel_rfl
theorem M250 : fnOk Tryz.prog (FD, nuD) tabs0 250 p250 = true := by kernel_rfl
theorem M251 : fnOk Tryz.prog (FD, nuD) tabs0 251 p251 = true := by kernel_rfl
theorem M252 : fnOk Tryz.prog (FD, nuD) tabs0 252 p252 = true := by kernel_rfl
theorem M253 : fnOk Tryz.prog (FD, nuD) tabs0 253 p253 = true := by kernel_rfl
theorem M257 : fnOk Tryz.prog (FD, nuD) tabs0 257 p257 = true := by kernel_rfl
theorem M258 : fnOk Tryz.prog (FD, nuD) tabs0 258 p258 = true := by kernel_rfl
theorem M259 : fnOk Tryz.prog (FD, nuD) tabs0 259 p259 = true := by kernel_rfl
theorem M269 : fnOk Tryz.prog (FD, nuD) tabs0 269 p269 = true := by kernel_rfl
theorem M277 : fnOk Tryz.prog (FD, nuD) tabs0 277 p277 = true := by kernel_rfl
theorem M278 : fnOk Tryz.prog (FD, nuD) tabs0 278 p278 = true := by kernel_rfl
theorem M285 : fnOk Tryz.prog (FD, nuD) tabs0 285 p285 = true := by kernel_rfl
theorem FD_ok (g : Nat) (p : PF) (h : FD g = some p) : fnOk Tryz.prog (FD, nuD) tabs0 g p = true ∧ FF g = some p := by
 unfold FD at h
 split at h
 ·cases h; exact ⟨M12, rfl⟩
 ·cases h; exact ⟨M13, rfl⟩
 ·cases h; exact ⟨M14, rfl⟩
 ·cases h; exact ⟨M18, rfl⟩
 ·cases h; exact ⟨M19, rfl⟩
 ·cases h; exact ⟨M20, rfl⟩
 ·cases h; exact ⟨M21, rfl⟩
 ·cases h; exact ⟨M23, rfl⟩
 ·cases h; exact ⟨M25, rfl⟩
 ·cases h; exact ⟨M29, rfl⟩
 ·cases h; exact ⟨M31, rfl⟩
 ·cases h; exact ⟨M33, rfl⟩
 ·cases h; exact ⟨M34, rfl⟩
 ·cases h; exact ⟨M36, rfl⟩
 ·cases h; exact ⟨M38, rfl⟩
 ·cases h; exact ⟨M39, rfl⟩
 ·cases h; exact ⟨M40, rfl⟩
 ·cases h; exact ⟨M43, rfl⟩
 ·cases h; exact ⟨M47, rfl⟩
 ·cases h; exact ⟨M51, rfl⟩
 ·cases h; exact ⟨M52, rfl⟩
 ·cases h; exact ⟨M53, rfl⟩
 ·cases h; exact ⟨M54, rfl⟩
 ·cases h; exact ⟨M55, rfl⟩
 ·cases h; exact ⟨M56, rfl⟩
 ·cases h; exact ⟨M57, rfl⟩
 ·cases h; exact ⟨M63, rfl⟩
 ·cases h; exact ⟨M64, rfl⟩
 ·cases h; exact ⟨M65, rfl⟩
 ·cases h; exact ⟨M66, rfl⟩
 ·cases h; exact ⟨M67, rfl⟩
 ·cases h; exact ⟨M68, rfl⟩
 ·cases h; exact ⟨M69, rfl⟩
 ·cases h; exact ⟨M71, rfl⟩
 ·cases h; exact ⟨M72, rfl⟩
 ·cases h; exact ⟨M73, rfl⟩
 ·cases h; exact ⟨M74, rfl⟩
 ·cases h; exact ⟨M75, rfl⟩
 ·cases h; exact ⟨M76, rfl⟩
 ·cases h; exact ⟨M77, rfl⟩
 ·cases h; exact ⟨M78, rfl⟩
 ·cases h; exact ⟨M79, rfl⟩
 ·cases h; exact ⟨M80, rfl⟩
 ·cases h; exact ⟨M81, rfl⟩
 ·cases h; exact ⟨M82, rfl⟩
 ·cases h; exact ⟨M83, rfl⟩
 ·cases h; exact ⟨M86, rfl⟩
 ·cases h; exact ⟨M87, rfl⟩
 ·cases h; exact ⟨M88, rfl⟩
 ·cases h; exact ⟨M89, rfl⟩
 ·cases h; exact ⟨M90, rfl⟩
 ·cases h; exact ⟨M91, rfl⟩
 ·cases h; exact ⟨M92, rfl⟩
 ·cases h; exact ⟨M96, rfl⟩
 ·cases h; exact ⟨M106, rfl⟩
 ·cases h; exact ⟨M107, rfl⟩
 ·cases h; exact ⟨M108, rfl⟩
 ·cases h; exact ⟨M109, rfl⟩
 ·cases h; exact ⟨M110, rfl⟩
 ·cases h; exact ⟨M111, rfl⟩
 ·cases h; exact ⟨M112, rfl⟩
 ·cases h; exact ⟨M113, rfl⟩
 ·cases h; exact ⟨M114, rfl⟩
 ·cases h; exact ⟨M115, rfl⟩
 ·cases h; exact ⟨M116, rfl⟩
 ·cases h; exact ⟨M117, rfl⟩
 ·cases h; exact ⟨M118, rfl⟩
 ·cases h; exact ⟨M119, rfl⟩
 ·cases h; exact ⟨M120, rfl⟩
 ·cases h; exact ⟨M127, rfl⟩
 ·cases h; exact ⟨M128, rfl⟩
 ·cases h; exact ⟨M129, rfl⟩
 ·cases h; exact ⟨M130, rfl⟩
 ·cases h; exact ⟨M131, rfl⟩
 ·cases h; exact ⟨M137, rfl⟩
 ·cases h; exact ⟨M138, rfl⟩
 ·cases h; exact ⟨M139, rfl⟩
 ·cases h; exact ⟨M140, rfl⟩
 ·cases h; exact ⟨M141, rfl⟩
 ·cases h; exact ⟨M162, rfl⟩
 ·cases h; exact ⟨M171, rfl⟩
 ·cases h; exact ⟨M196, rfl⟩
 ·cases h; exact ⟨M197, rfl⟩
 ·cases h; exact ⟨M199, rfl⟩
 ·cases h; exact ⟨M200, rfl⟩
 ·cases h; exact ⟨M206, rfl⟩
 ·cases h; exact ⟨M209, rfl⟩
 ·cases h; exact ⟨M211, rfl⟩
 ·cases h; exact ⟨M215, rfl⟩
 ·cases h; exact ⟨M216, rfl⟩
 ·cases h; exact ⟨M224, rfl⟩
 ·cases h; exact ⟨M225, rfl⟩
 ·cases h; exact ⟨M226, rfl⟩
 ·cases h; exact ⟨M229, rfl⟩
 ·cases h; exact ⟨M231, rfl⟩
 ·cases h; exact ⟨M234, rfl⟩
 ·cases h; exact ⟨M236, rfl⟩
 ·cases h; exact ⟨M237, rfl⟩
 ·cases h; exact ⟨M240, rfl⟩
 ·cases h; exact ⟨M241, rfl⟩
 ·cases h; exact ⟨M242, rfl⟩
 ·cases h; exact ⟨M243, rfl⟩
 ·cases h; exact ⟨M244, rfl⟩
 ·cases h; exact ⟨M248, rfl⟩
 ·cases h; exact ⟨M249, rfl⟩
 ·cases h; exact ⟨M250, rfl⟩
 ·cases h; exact ⟨M251, rfl⟩
 ·cases h; exact ⟨M252, rfl⟩
 ·cases h; exact ⟨M253, rfl⟩
 ·cases h; exact ⟨M257, rfl⟩
 ·cases h; exact ⟨M258, rfl⟩
 ·cases h; exact ⟨M259, rfl⟩
 ·cases h; exact ⟨M269, rfl⟩
 ·cases h; exact ⟨M277, rfl⟩
 ·cases h; exact ⟨M278, rfl⟩
 ·cases h; exact ⟨M285, rfl⟩
 ·cases h
theorem followsD : Tryz.prog.follows .mixedOrders = true := by kernel_rfl
theorem callsD : CallsOk Tryz.prog (FD, nuD) tabs0 (R FF) := R_ok followsD FD_ok
end Go.Pe
namespace Go.Proofs.YtomicjfjbfkikaaGreatDoor.extremeRegions
open Go.Pe
open Go.ChangeShapes Go.WideShapes Go.ChangeAt Go.RowKit
theorem own : ownKnob Tryz.prog.godebug = none := by kernel_rfl
theorem laidOut : laidOutB Tryz.prog = true := by kernel_rfl
def laid : List (String × DataW Unit) := [("math/bits.deBruijn64tab", Rows.laid_math_bits_deBruijn64tab)]
def tz : List Int := tab0.map fun | .i _ n => n | _ => 0
theorem tab_rv {W : World} (h : laidMetH Tryz.prog laid W) : Rv W (fun _ => False) Rho.none (.tp tab0 0) (.pointer (some ⟨0, 0, none⟩)) := by
 rw [MakeChecks.laidMetH_plain _ _ _ (by kernel_rfl)] at h
 obtain ⟨ps, ⟨g, t, cs, fuel, p, q, hg, ht, hv, hd, _, _⟩, _, _⟩ := h
 obtain rfl := Option.some.inj ((show Tryz.prog.globalNamed "math/bits.deBruijn64tab" = some 0 by kernel_rfl).symm.trans hg)
 obtain rfl := Option.some.inj ((show (Tryz.prog.globals[0]?).map (·.type) = some 164 by kernel_rfl).symm.trans ht)
 obtain ⟨xs, m, _, ex, _, hl, hel⟩ := DataW.trod_array Tryz.underlying164 hd
 have cE : Tryz.prog.cellsOf 5 = 1 := by kernel_rfl
 have hlen : tz.length = 64 := by decide
 have e0 : (xs.map (·.1)) = tz.map fun n => .lit (.int .u8 n) := (DataW.agg.inj (Prod.mk.inj ex).1).symm
 have cell : ∀ r, r < 64 → W.cell? ⟨0, r, none⟩ = some (.int .u8 (tz.getD r 0)) := by
  intro r hr
  have hE := hel r hr
  rw [cE, Nat.mul_one, zh (by omega)] at hE
  obtain ⟨z, e1, e2, _⟩ := DataW.trod_int Tryz.underlying5 hE
  have e4 : (xs.map (·.1))[r]? = (tz.map fun n => (DataW.lit (.int .u8 n) : DataW Unit))[r]? := by rw [e0]
  rw [List.getElem?_map, List.getElem?_map, zh (by omega : r < xs.length), zh (by omega : r < tz.length), e2] at e4
  have hz : z = tz.getD r 0 := by
   simp only [Option.map_some, Option.some.injEq, DataW.lit.injEq, Lit.int.injEq, true_and] at e4
   rw [e4, List.getD, zh (by omega : r < tz.length)]; rfl
  rw [World.var?_cell hg hv r, ← hz]
  have : cs.toList[r]? = some (.int .u8 z) := by
   have h0 : ((cs.toList.drop r).take 1)[0]? = some (.int .u8 z) := by rw [e1]; rfl
   simpa using h0
  simpa using this
 have hb : 0 < W.heap.size := by
  have h0 := cell 0 (by decide)
  rcases Nat.lt_or_ge 0 W.heap.size with h | h
  ·exact h
  ·unfold World.cell? at h0; rw [Array.getElem?_eq_none h] at h0; cases h0
 refine Rv.tp (o := 0) (base := 0) (fun c => .int .u8 (tz.getD c 0)) (fun h => h) hb (fun c hc => ?_) fun c hc => ?_
 ·rw [zB]; exact ⟨cell c hc, rfl⟩
 ·have e : tab0 = tz.map (AV.i .u8) := rfl
  have hc' : c < tz.length := by rw [hlen]; exact hc
  rw [e, za, List.getElem?_map, za, zh hc']
  exact Rv.i
set_option maxRecDepth 100000 in
theorem lifted (os : Os) (started : os.Started) (H : Type) (enc : TypeId × Value → H) :
  ReturnsInHanded {} Tryz.checked os 3 .any (fun w args => (Rows.extremeRegionsSpec.pre enc Tryz.prog Tryz.f3 Rows.extremeRegionsRow.domain false w args ∧ laidMetH Tryz.prog laid w) ∧ sizedMet enc Tryz.prog Tryz.f3 (OpenSpec.ofChange Rows.extremeRegionsSpec) false w args) (Rows.extremeRegionsSpec.post enc Tryz.prog Tryz.f3 false true false false) := by
 refine returnsInHanded_of_change_and (C := Tryz.checked) (X := fun w _ => laidMetH Tryz.prog laid w) (fun _ _ _ hh h => h.of_heap hh) own started (by kernel_rfl) Tryz.func3
  (ChangeSpec.witness_shaped (enc := enc) (C := Tryz.checked) (os := os) (X := fun w _ => laidMetH Tryz.prog laid w) false (World.laidAll Tryz.prog os laid) #[.slice none 0 0, .slice none 0 0, .slice none 0 0] 8 (World.laidAll_os _ _ _)
   (World.shaped_of_ZipB (by kernel_rfl) (by kernel_rfl)) (by kernel_rfl) (by kernel_rfl) (by kernel_rfl) (by rw [MakeChecks.laidMetH_plain _ _ _ (by kernel_rfl)]; exact laidMet_laidAll _ (by kernel_rfl) (by kernel_rfl))) ?_
 intro W base args ds gs before hval0 hW hcnd hsz0 hL _
 have hval : ∀ (j : Nat) t v, Tryz.f3.params[j]? = some t → args[j]? = some v → Value.okWide Tryz.prog W .any base t v := hval0
 have hW' := hW
 obtain ⟨p, q, hA0, hV, rfl, hfz, hnd⟩ := hW
 have hA : DataW.TrodAll enc Tryz.prog W 0 (fun _ => true) true Tryz.f3.params.toList args.toList ds p := hA0
 rw [Tryz.params3] at hA hval
 obtain ⟨v0, vs0, d0, ds0, pl0, ql0, hargs, rfl, rfl, h0, r0⟩ := trodAll_cons hA
 obtain ⟨v1, vs1, d1, ds1, pl1, ql1, rfl, rfl, rfl, h1, r1⟩ := trodAll_cons r0
 obtain ⟨v2, vs2, d2, ds2, pl2, ql2, rfl, rfl, rfl, h2, r2⟩ := trodAll_cons r1
 obtain ⟨rfl, rfl, rfl⟩ := trodAll_nil r2
 obtain rfl : args = #[v0, v1, v2] := by cases args; simp_all
 obtain ⟨rfl, rfl⟩ := trodVars_none hV
 have lt0 : ∀ x ∈ pl0, x.block < W.heap.size := by obtain ⟨m, hm⟩ := h0; exact DataW.trod_lt m _ _ _ hm
 obtain ⟨acs0, la0, fa0, rv0⟩ := arg_rv (n := 12) (ks := [.sl kNd]) (hval 0 22 v0 rfl rfl) h0 (by kernel_rfl)
 rw [show isStr Tryz.prog 22 = false by kernel_rfl] at rv0
 obtain ⟨y0, rfl, fy0⟩ := Fits.one ⟨la0, fa0⟩
 obtain ⟨x0, rfl, ok0⟩ := open_LNd fy0
 have lt1 : ∀ x ∈ pl1, x.block < W.heap.size := by obtain ⟨m, hm⟩ := h1; exact DataW.trod_lt m _ _ _ hm
 obtain ⟨acs1, la1, fa1, rv1⟩ := arg_rv (n := 12) (ks := [.sl kS]) (hval 1 24 v1 rfl rfl) h1 (by kernel_rfl)
 rw [show isStr Tryz.prog 24 = false by kernel_rfl] at rv1
 obtain ⟨y1, rfl, fy1⟩ := Fits.one ⟨la1, fa1⟩
 obtain ⟨x1, rfl, ok1⟩ := open_LS fy1
 have lt2 : ∀ x ∈ pl2, x.block < W.heap.size := by obtain ⟨m, hm⟩ := h2; exact DataW.trod_lt m _ _ _ hm
 obtain ⟨acs2, la2, fa2, rv2⟩ := arg_rv (n := 12) (ks := [.sl kC]) (hval 2 25 v2 rfl rfl) h2 (by kernel_rfl)
 rw [show isStr Tryz.prog 25 = false by kernel_rfl] at rv2
 obtain ⟨y2, rfl, fy2⟩ := Fits.one ⟨la2, fa2⟩
 obtain ⟨x2, rfl, ok2⟩ := open_LC fy2
 clear hA0 hval0 hsz0
 have hlaw := law_ExtremeRegions x0 ok0 x1 ok1 x2 ok2
 have hx : ∀ j, j < 3 → Rv W (fun _ => False) Rho.none ([AV.l 14 (x0.map eNd), AV.l 9 (x1.map eS), AV.l 4 (x2.map eC)].getD j .junk) (#[v0, v1, v2].getD j undef) := by
  intro j hj
  match j, hj with
  | 0, _ => exact rv0
  | 1, _ => exact rv1
  | 2, _ => exact rv2
 refine (law_true (F := (FD, nuD)) callsD (g := 269) (p := p269) rfl rfl (by decide) (by kernel_rfl) hlaw (w := W) (vs := #[v0, v1, v2]) (fun q hq => by obtain rfl := List.mem_singleton.1 hq; exact tab_rv hL) rfl hx).mono fun e W' ⟨he, bel⟩ => ?_
 subst he
 exact ⟨_, rfl, _, _, _, [], _, [], hW', trodAll_mk1 (shut_bool Tryz.underlying4 _), (trodAll_cons_mk (Below.trod laidOut (by kernel_rfl) (of_decide_eq_true (by kernel_rfl)) h0 bel lt0) (trodAll_cons_mk (Below.trod laidOut (by kernel_rfl) (of_decide_eq_true (by kernel_rfl)) h1 bel lt1) (trodAll_cons_mk (Below.trod laidOut (by kernel_rfl) (of_decide_eq_true (by kernel_rfl)) h2 bel lt2) trodAll_mk0))), rfl, bel.frame _, fun h => by cases h⟩
theorem over : Rows.extremeRegionsRow.holds Tryz.pinned (OpenSpec.ofChange Rows.extremeRegionsSpec) :=
 OpenClaim.holds_of_wide 3 Tryz.f3 rfl rfl rfl rfl rfl rfl rfl ⟨rfl, rfl, rfl, rfl, rfl⟩ rfl rfl rfl rfl rfl (by kernel_rfl) Tryz.func3 (by kernel_rfl)
  (of_decide_eq_true (by kernel_rfl)) (by unfold Func.isWrapper; first | (rw [if_pos (by decide +kernel)]; kernel_rfl) | (rw [if_neg (by decide +kernel)]; exact ⟨rfl, rfl⟩))
  (fun os started H enc _ => lifted os started H enc)
theorem proved : Rows.ExtremeRegionsCardSaid :=
 Claim7.holds_tied_plain_at .later [] [.data] true (true, "1f5c833cdfdff4f3e0a3cbb50ea9bcb318c7d806a1bba81f5e623bbbaff005ea") false over (fun _ h => by cases h) (by kernel_rfl) (fun _ h => by cases h) extremeRegions_row_tie rfl ⟨rfl, rfl⟩ (by kernel_rfl) rfl
  (fun f fn hf hfn => by
   obtain rfl : f = 3 := Option.some.inj ((show Tryz.prog.funcNamed "dendron/dendronlaw24.ExtremeRegions" = some 3 by kernel_rfl).symm.trans hf) |>.symm
   obtain rfl : fn = Tryz.f3 := (Option.some.inj (Tryz.func3.symm.trans hfn)).symm
   exact ⟨by kernel_rfl, fun j t ht => by
    rw [Tryz.params3] at ht
    have hm : t ∈ [22, 24, 25] := by simpa using Array.mem_of_getElem? ht
    have hall : ([22, 24, 25].all fun u => !Tryz.prog.wantsStandIn u) = true := by kernel_rfl
    exact (show Tryz.prog.wantsStandIn t = false by simpa using List.all_eq_true.1 hall t hm)⟩)
  (by kernel_rfl)
#print axioms proved
end Go.Proofs.YtomicjfjbfkikaaGreatDoor.extremeRegions
namespace Go.Proofs.YtomicjfjbfkikaaGreatDoor
theorem extremeRegions_holds : Rows.ExtremeRegionsCardSaid := extremeRegions.proved
end Go.Proofs.YtomicjfjbfkikaaGreatDoor
