/- Proved: It shows that a row that has another one's entries in some places is predicted between the least and the most that are told for these, and that with no place free both are what is predicted. No conditions. -/
import Derived.Test.YtomicjfjbfkikaaDoorBExtremeSwings5
import Derived.Test.YtomicjfjbfkikaaDoorChecked
import Derived.KernelRfl
import Derived.Test.YtomicjfjbfkikaaDoorRows
import Derived.WalkKit
import Derived.ProofKit
import Derived.OpenShut
import Derived.ShutString
import Derived.ChangeOld
import Derived.Below
import Derived.SizedLaws
import Derived.Test.YtomicjfjbfkikaaDoorCards
import Derived.Test.YtomicjfjbfkikaaDoorTie
import Derived.LaidMore
import Derived.Lay
import Derived.SevenTiedAt
import Derived.Stop.Joined
import Derived.Handed
import Derived.LaidLaws
set_option linter.unusedVariables false
set_option linter.unusedSimpArgs false
open List renaming getD_eq_getElem?_getD → za, take_of_length_le → zc, getElem?_eq_getElem → ze, take_length → zh, length_map → zi, replicate → zj, length_take → zk, length_append → zl, length_replicate → zm, mem_cons_of_mem → zn, mem_cons_self → zp, length_cons → zr, length_set → zx, drop_zero → zz, mem_singleton → zB, drop_of_length_le → zG
open Int renaming natCast_nonneg → zb, mul_le_mul_of_nonneg_right → zq, ofNat_zero → zy, natAbs → zD
open Bool renaming and_eq_true → zd, false_eq_true → zA
open Option renaming map_eq_some_iff → zf, bind_eq_some_iff → zg, bind_some → zt
open Nat renaming le_refl → zo, mul_le_mul_right → zu, le_trans → zw, add_mul → zE, zero_add → zF
open Rat renaming num → zC
open Go
namespace Go.Pe
theorem predV_walk {o row : List RC} : ∀ {ts : List (List RNd)}, (∀ t ∈ ts, walk t o t.length 0 = walk t row t.length 0) → predV ts o = predV ts row
 | [], _ => rfl
 | t :: ts, h => by
  rw [predV_cons, predV_cons, predV_walk fun s hs => h s (zn _ hs)]
  unfold valT
  rw [h t (zp ..)]
theorem swing_c {m : RM} {row : List RC} {s k : Nat} (hk : k ≤ 10) (h1k : 1 ≤ k) (hs : s < 18446744073709551616) (hm : Fw m k) (hr : SmR row k) (hrl : row.length ≤ 64) (h0 : wyR m row = 0) :
  ∃ (c : List RS) (v w : Rat) (p q : List RC), R FF 207 [.agg (eM m), .l 4 (row.map eC), .i .u64 (s : Int)] = some (.tup [(AV.agg [AV.b (ng (zC w)), (AV.l 1 (List.map u (D (zD (zC w))))), (AV.l 1 (List.map u (D (Rat.den w))))]), (AV.agg [AV.b (ng (zC v)), (AV.l 1 (List.map u (D (zD (zC v))))), (AV.l 1 (List.map u (D (Rat.den v))))]), (AV.i .i64 0)]) ∧ (∀ o, inB c o = true ↔ o.length = row.length ∧ ∀ t ∈ m.2, walk t o t.length 0 = walk t row t.length 0) ∧
   Great m.2 (swI s c c.length) k v p ∧ Small m.2 (swI s c c.length) k w q := by
 obtain ⟨hv, hf⟩ := wyR_zero h0
 have f1 := rFits_c (m := m) (row := row) (k := k) (by omega) h1k hm.smM
 rw [h0] at f1
 obtain ⟨c, f2, g2, g3, g4⟩ := cell_c hk h1k hm hr (by omega) h0
 have l0 := swing_l0 (m := m) (s := s) (b := c) hs (by omega) c.length 0 (by omega)
 rw [show swI s c 0 = c from rfl, zy] at l0
 have hin : inB c row = true := (g4 row).2 ⟨rfl, fun t _ => rfl⟩
 have hb : SmB (swI s c c.length) k := swI_sm g3 _
 have hbl : (swI s c c.length).length = c.length := swI_len s c _
 have hvo := in_void (sw_in (s := s) hin)
 have hE : wyE m (swI s c c.length) = 0 := by
  rw [wyE_ok hv, if_pos (by omega), hvo]; rfl
 obtain ⟨v, p, f3, h3⟩ := most24_c hk h1k hm hb (by omega) hE
 obtain ⟨w, q, f4, h4⟩ := least24_c hk h1k hm hb (by omega) hE
 refine ⟨c, v, w, p, q, ?_, g4, h3, h4⟩
 generalize swI s c c.length = B at *
 obtain ⟨mf, ts⟩ := m
 simp only [eM] at f1 f2 f3 f4 l0 ⊢
 rw [R_go FF F207 c207.eq_1]
 have e9 : ((100600 : Nat) != 16) = true := rfl
 simp only [RB, RL, un, St.none, Nat.reduceEqDiff, Nat.reduceAdd, Nat.reduceMul, Nat.reduceMod, Nat.reduceLeDiff, Nat.reduceLT, Int.reduceLT, Int.reduceLE, Int.reduceEq, Int.reduceToNat, Int.reduceSub, Int.reduceNeg, Int.reduceAdd, ↓reduceIte, reduceCtorEq, pack, pid, parN, lid, chkK, apartV, Heap.none, f1, f2, f3, f4, l0, e9, n64, eTr_rules, eTr_row, eC_rules, eC_row, eS_rules, eS_row, zh, zz, zi]
theorem swing_bad {m : RM} {row : List RC} {s : Int} {k : Nat} (hk : k ≤ 10) (h1k : 1 ≤ k) (hm : Fw m k) (h0 : ¬ wyR m row = 0) :
  R FF 207 [.agg (eM m), .l 4 (row.map eC), .i .u64 s] = some (.tup [.agg [.b false, .l 1 [], .l 1 []], .agg [.b false, .l 1 [], .l 1 []], (AV.i .i64 ((wyR m row)))]) := by
 have f1 := rFits_c (m := m) (row := row) (k := k) (by omega) h1k hm.smM
 generalize wyR m row = e at *
 obtain ⟨mf, ts⟩ := m
 simp only [eM] at f1 ⊢
 rw [R_go FF F207 c207.eq_1]
 simp only [RB, RL, un, St.none, Nat.reduceEqDiff, Nat.reduceAdd, Nat.reduceMul, Nat.reduceMod, Nat.reduceLeDiff, Nat.reduceLT, Int.reduceLT, Int.reduceLE, Int.reduceEq, Int.reduceToNat, Int.reduceSub, Int.reduceNeg, Int.reduceAdd, ↓reduceIte, reduceCtorEq, pack, pid, parN, lid, chkK, apartV, Heap.none, f1, h0, n64, eTr_rules, eTr_row, eC_rules, eC_row]
theorem swings24_l0 {m : RM} {row oth : List RC} {lo hi : List AV} {s : Nat} (hs : s < 18446744073709551616) (hrl : row.length ≤ 64) (hl : oth.length = row.length) : ∀ (d i : Nat), i + d = row.length →
  LP FF [(18, 1), (1, 0), (3, 0), (4, 0), (9, 0), (10, 0), (19, 0), (20, 0)] [(4, 0), (9, 0), (10, 0), (18, 0)] b158_0 [.own true 4 ((mxI s row oth i).map eC), .l 4 (row.map eC), .l 4 (oth.map eC), .tp (eM m) 0, .tp lo 0, .tp hi 0, .i .u64 ((s / 2 ^ i : Nat) : Int), (AV.i .i64 ((i : Int)))] =
   some (.exit 0, [.tp (eM m) 0, .tp lo 0, .tp hi 0, .l 4 ((mxI s row oth row.length).map eC)]) := by
 obtain ⟨mf, ts⟩ := m
 simp only [eM]
 intro d
 induction d with
 | zero =>
  intro i hi
  obtain rfl : i = row.length := by omega
  have c1 : ¬ (row.length : Int) < (row.length : Int) := by omega
  generalize mxI s row oth row.length = L at *
  rw [LP_go FF b158_0.eq_1]
  simp only [RB, RL, un, St.none, Nat.reduceEqDiff, Nat.reduceAdd, Nat.reduceMul, Nat.reduceMod, Nat.reduceLeDiff, Nat.reduceLT, Int.reduceLT, Int.reduceLE, Int.reduceEq, Int.reduceToNat, Int.reduceSub, Int.reduceNeg, Int.reduceAdd, ↓reduceIte, reduceCtorEq, pack, pid, parN, lid, chkK, apartV, Heap.none, c1, eC_rules, eC_row, eTr_rules, eTr_row, zh, zz, zi, Row.freeze]
 | succ d ih =>
  intro i hi
  have h9 := ih (i + 1) (by omega)
  have c1 : (i : Int) < (row.length : Int) := by omega
  have c2 : (i : Int) < (oth.length : Int) := by omega
  have e2 : IntKind.i64.wrap ((i : Int) + 1) = ((i + 1 : Nat) : Int) := w64succ (by omega)
  have hml := mxI_len s row oth i
  rw [mxI_succ] at h9
  have hdiv : s / 2 ^ (i + 1) = s / 2 ^ i / 2 := by rw [Nat.pow_succ, Nat.div_div_eq_div_mul]
  rw [hdiv] at h9
  have hle := Nat.div_le_self s (2 ^ i)
  have hbd : bitN s i = decide (s / 2 ^ i % 2 = 1) := rfl
  have b2 : (i + 1) * 64 ≤ 140737488355328 := by omega
  have m2 : ∀ y : RC, List.take (i + 1) (mxI s row oth i ++ [y]) = mxI s row oth i ++ [y] := fun y => zc (by rw [zl, hml]; exact zo _)
  have m3 : List.take i (mxI s row oth i) = mxI s row oth i := zc (by omega)
  have m1 : ∀ y : RC, List.map eC (mxI s row oth i) ++ [[.b y.1, .b y.2.1, .l 1 (y.2.2.1.map u), .l 1 (y.2.2.2.map u)]] = List.map eC (mxI s row oth i ++ [y]) := fun y => by rw [List.map_append]; rfl
  have m1o := m1 (oth.getD i dC)
  have m1r := m1 (row.getD i dC)
  have m2o := m2 (oth.getD i dC)
  have m2r := m2 (row.getD i dC)
  generalize s / 2 ^ i = x at *
  generalize mxI s row oth i = L at *
  have e6 : (x : Int).tdiv 2 = ((x / 2 : Nat) : Int) := by rw [Int.tdiv_eq_ediv_of_nonneg (zb _)]; rfl
  have e7 : IntKind.u64.wrap ((x / 2 : Nat) : Int) = ((x / 2 : Nat) : Int) := by rw [IntKind.wrap_u64]; omega
  cases hbit : bitN s i with
  | true =>
   rw [hbit, if_pos rfl] at h9
   rw [hbit] at hbd
   have h5 := of_decide_eq_true hbd.symm
   have e5 : (x : Int).tmod 2 = 1 := by rw [Int.tmod_eq_emod_of_nonneg (zb _)]; omega
   rw [LP_go FF b158_0.eq_1]
   simp only [RB, RL, un, St.none, Nat.reduceEqDiff, Nat.reduceAdd, Nat.reduceMul, Nat.reduceMod, Nat.reduceLeDiff, Nat.reduceLT, Int.reduceLT, Int.reduceLE, Int.reduceEq, Int.reduceToNat, Int.reduceSub, Int.reduceNeg, Int.reduceAdd, ↓reduceIte, reduceCtorEq, pack, pid, parN, lid, chkK, apartV, Heap.none, c1, c2, e2, e5, e6, e7, b2, hml, m1o, m2o, m3, n64, eC_rules, eC_row, eTr_rules, eTr_row, zb, zh, zz, zi]
   exact h9
  | false =>
   rw [hbit, if_neg (show ¬ false = true by decide)] at h9
   rw [hbit] at hbd
   have h5 := of_decide_eq_false hbd.symm
   have e5 : (x : Int).tmod 2 = 0 := by rw [Int.tmod_eq_emod_of_nonneg (zb _)]; omega
   rw [LP_go FF b158_0.eq_1]
   simp only [RB, RL, un, St.none, Nat.reduceEqDiff, Nat.reduceAdd, Nat.reduceMul, Nat.reduceMod, Nat.reduceLeDiff, Nat.reduceLT, Int.reduceLT, Int.reduceLE, Int.reduceEq, Int.reduceToNat, Int.reduceSub, Int.reduceNeg, Int.reduceAdd, ↓reduceIte, reduceCtorEq, pack, pid, parN, lid, chkK, apartV, Heap.none, c1, c2, e2, e5, e6, e7, b2, hml, m1r, m2r, m3, n64, eC_rules, eC_row, eTr_rules, eTr_row, zb, zh, zz, zi]
   exact h9
theorem law_ExtremeSwings (m : RM) (hm : OkM m) (row : List RC) (hr : row.length ≤ maxL ∧ ∀ x ∈ row, OkC x) (n : Int) (hn : 0 ≤ n ∧ n ≤ 18446744073709551615) (oth : List RC) (ho : oth.length ≤ maxL ∧ ∀ x ∈ oth, OkC x) :
  R FF 158 [.agg (eM m), .l 4 (row.map eC), .i .u64 n, .l 4 (oth.map eC)] = some (.b true) := by
 obtain ⟨s, rfl⟩ : ∃ s : Nat, n = s := ⟨n.toNat, by omega⟩
 have hs : s < 18446744073709551616 := by omega
 have f1 := small11_c hm hr
 have f2 := few09_c (n := 70) (by omega) ho.2 ho.1
 rw [show (oth.take 70).map t3 = fw 70 oth from rfl] at f2
 have f2 : R FF 29 [.l 4 (oth.map eC), (AV.i .i64 70)] = some (.l 4 ((fw 70 oth).map eC)) := f2
 have hM := fM9_fw hm
 have hw := fw6_sm hr 70
 have hw2 := fw6_sm ho 70
 generalize fM9 m = M at *
 generalize fw 70 row = w at *
 generalize fw 70 oth = o at *
 have f3 := why10_c (m := M) (row := w) (k := 4) (by omega) (by omega) hM
 by_cases hl5 : 5 < (w.length : Int)
 ·obtain ⟨mf, ts⟩ := m
  obtain ⟨mg, us⟩ := M
  simp only [eM] at f1 ⊢
  rw [R_go FF F158 c158.eq_1]
  simp only [RB, RL, un, St.none, Nat.reduceEqDiff, Nat.reduceAdd, Nat.reduceMul, Nat.reduceMod, Nat.reduceLeDiff, Nat.reduceLT, Int.reduceLT, Int.reduceLE, Int.reduceEq, Int.reduceToNat, Int.reduceSub, Int.reduceNeg, Int.reduceAdd, ↓reduceIte, reduceCtorEq, pack, pid, parN, lid, chkK, apartV, Heap.none, f1, f2, hl5, awake24e, n64, eTr_rules, eTr_row, eC_rules, eC_row]
 by_cases h0 : wyR M w = 0
 ·obtain ⟨hv, hf⟩ := wyR_zero h0
  obtain ⟨c, v, u', p, q, g1, g2, g3, g4⟩ := swing_c (s := s) (k := 4) (by omega) (by omega) hs hM hw (by omega) h0
  obtain ⟨c0, v0, u0, p0, q0, k1, k2, k3, k4⟩ := swing_c (s := 0) (k := 4) (by omega) (by omega) (by omega) hM hw (by omega) h0
  rw [sw_zero] at k3 k4
  rw [zy] at k1
  have ev : v0 = predV M.2 w := by rw [← k3.wit.2]; exact predV_walk ((k2 _).1 k3.wit.1).2
  have eu : u0 = predV M.2 w := by rw [← k4.wit.2]; exact predV_walk ((k2 _).1 k4.wit.1).2
  rw [ev, eu] at k1
  rw [h0] at f3
  have f4 := predict_c (m := M) (row := w) (k := 4) (by omega) (by omega) hM.smM hw hv hf
  have hsq := predV_sq9 (by omega) (by omega) hM hv w
  have c1 := csame_c hsq hsq (by omega) (by omega)
  rw [decide_eq_true rfl] at c1
  generalize predV M.2 w = x at *
  by_cases hl : (o.length : Int) = (w.length : Int)
  ·have hlo : o.length = w.length := by omega
   have l0 := swings24_l0 (m := M) (row := w) (oth := o) (lo := [.b (ng u'.num), (AV.l 1 (List.map u (D u'.num.natAbs))), (AV.l 1 (List.map u (D u'.den)))]) (hi := [.b (ng v.num), (AV.l 1 (List.map u (D v.num.natAbs))), (AV.l 1 (List.map u (D v.den)))]) hs (by omega) hlo w.length 0 (by omega)
   rw [zy, Nat.pow_zero, Nat.div_one, show mxI s w o 0 = [] from rfl] at l0
   simp only [List.map_nil] at l0
   have hin : inB c w = true := (g2 w).2 ⟨rfl, fun t _ => rfl⟩
   have hmx := mx_in (s := s) (oth := o) hin
   have hmsm := mx_sm (s := s) hw hw2 hlo
   have hml := mxI_len s w o w.length
   generalize mxI s w o w.length = H at *
   have h5 := g3.all H hmx
   have h6 := g4.all H hmx
   have f5 := predict10_c (m := M) (row := H) (k := 4) (by omega) (by omega) hM.smM hmsm hv (by omega)
   have hsq2 := predV_sq9 (by omega) (by omega) hM hv H
   have d1 := ccmp_c g4.sq hsq2 (by omega) (by omega)
   have d2 := ccmp_c hsq2 g3.sq (by omega) (by omega)
   have d3 := (qcmp_le (x := u') (y := predV M.2 H)).2 h6
   have d4 := (qcmp_le (x := predV M.2 H) (y := v)).2 h5
   generalize predV M.2 H = y at *
   generalize qcmp u' y = z1 at *
   generalize qcmp y v = z2 at *
   obtain ⟨mf, ts⟩ := m
   obtain ⟨mg, us⟩ := M
   simp only [eM] at f1 f3 f4 f5 g1 k1 l0 ⊢
   rw [R_go FF F158 c158.eq_1]
   simp only [RB, RL, un, St.none, Nat.reduceEqDiff, Nat.reduceAdd, Nat.reduceMul, Nat.reduceMod, Nat.reduceLeDiff, Nat.reduceLT, Int.reduceLT, Int.reduceLE, Int.reduceEq, Int.reduceToNat, Int.reduceSub, Int.reduceNeg, Int.reduceAdd, ↓reduceIte, reduceCtorEq, pack, pid, parN, lid, chkK, apartV, Heap.none, f1, f2, f3, f4, f5, g1, k1, l0, hl5, hl, c1, d1, d2, d3, d4, awake24e, n64, eTr_rules, eTr_row, eC_rules, eC_row]
  ·obtain ⟨mf, ts⟩ := m
   obtain ⟨mg, us⟩ := M
   simp only [eM] at f1 f3 f4 g1 k1 ⊢
   rw [R_go FF F158 c158.eq_1]
   simp only [RB, RL, un, St.none, Nat.reduceEqDiff, Nat.reduceAdd, Nat.reduceMul, Nat.reduceMod, Nat.reduceLeDiff, Nat.reduceLT, Int.reduceLT, Int.reduceLE, Int.reduceEq, Int.reduceToNat, Int.reduceSub, Int.reduceNeg, Int.reduceAdd, ↓reduceIte, reduceCtorEq, pack, pid, parN, lid, chkK, apartV, Heap.none, f1, f2, f3, f4, g1, k1, hl5, hl, c1, awake24e, n64, eTr_rules, eTr_row, eC_rules, eC_row]
 ·have g1 := swing_bad (s := (s : Int)) (k := 4) (by omega) (by omega) hM h0
  generalize wyR M w = e at *
  have w0 : IntKind.i64.wrap 0 = 0 := rfl
  obtain ⟨mf, ts⟩ := m
  obtain ⟨mg, us⟩ := M
  simp only [eM] at f1 f3 g1 ⊢
  rw [R_go FF F158 c158.eq_1]
  simp only [RB, RL, un, St.none, Nat.reduceEqDiff, Nat.reduceAdd, Nat.reduceMul, Nat.reduceMod, Nat.reduceLeDiff, Nat.reduceLT, Int.reduceLT, Int.reduceLE, Int.reduceEq, Int.reduceToNat, Int.reduceSub, Int.reduceNeg, Int.reduceAdd, ↓reduceIte, reduceCtorEq, pack, pid, parN, lid, chkK, apartV, Heap.none, f1, f2, f3, g1, h0, hl5, awake24e, n64, eTr_rules, eTr_row, eC_rules, eC_row, eq_self, w0]
open Go Go.Proofs
set_option maxRecDepth 100000
def tabs0 : List (Nat × List AV) := [(0, tab0)]
def FD : Nat → Option PF
 | 14 => some p14
 | 19 => some p19
 | 20 => some p20
 | 21 => some p21
 | 23 => some p23
 | 25 => some p25
 | 29 => some p29
 | 31 => some p31
 | 33 => some p33
 | 36 => some p36
 | 51 => some p51
 | 52 => some p52
 | 53 => some p53
 | 54 => some p54
 | 55 => some p55
 | 56 => some p56
 | 57 => some p57
 | 63 => some p63
 | 64 => some p64
 | 65 => some p65
 | 66 => some p66
 | 68 => some p68
 | 69 => some p69
 | 71 => some p71
 | 72 => some p72
 | 73 => some p73
 | 74 => some p74
 | 75 => some p75
 | 76 => some p76
 | 77 => some p77
 | 81 => some p81
 | 82 => some p82
 | 83 => some p83
 | 86 => some p86
 | 92 => some p92
 | 96 => some p96
 | 106 => some p106
 | 107 => some p107
 | 108 => some p108
 | 109 => some p109
 | 110 => some p110
 | 111 => some p111
 | 112 => some p112
 | 113 => some p113
 | 114 => some p114
 | 115 => some p115
 | 116 => some p116
 | 117 => some p117
 | 127 => some p127
 | 128 => some p128
 | 129 => some p129
 | 130 => some p130
 | 131 => some p131
 | 137 => some p137
 | 138 => some p138
 | 139 => some p139
 | 140 => some p140
 | 141 => some p141
 | 158 => some p158
 | 162 => some p162
 | 196 => some p196
 | 197 => some p197
 | 199 => some p199
 | 201 => some p201
 | 203 => some p203
 | 205 => some p205
 | 206 => some p206
 | 207 => some p207
 | 208 => some p208
 | 209 => some p209
 | 211 => some p211
 | 224 => some p224
 | 225 => some p225
 | 226 => some p226
 | 227 => some p227
 | 228 => some p228
 | 229 => some p229
 | 230 => some p230
 | 231 => some p231
 | 232 => some p232
 | 233 => some p233
 | 234 => some p234
 | 236 => some p236
 | 237 => some p237
 | 243 => some p243
 | 244 => some p244
 | 245 => some p245
 | 246 => some p246
 | 248 => some p248
 | 249 => some p249
 | 250 => some p250
 | 251 => some p251
 | 252 => some p252
 | 253 => some p253
 | 259 => some p259
 | 285 => some p285
 | 327 => some p327
 | 328 => some p328
 | 329 => some p329
 | 330 => some p330
 | _ => none
def nuD : Nat → Nat
 | 14 => 20
 | 19 => 92
 | 20 => 91
 | 21 => 111
 | 23 => 35
 | 25 => 58
 | 29 => 17
 | 31 => 42
 | 33 => 38
 | 36 => 93
 | 51 => 67
 | 52 => 69
 | 53 => 104
 | 54 => 41
 | 55 => 64
 | 56 => 37
 | 57 => 15
 | 63 => 49
 | 64 => 50
 | 65 => 51
 | 66 => 52
 | 68 => 36
 | 69 => 71
 | 71 => 46
 | 72 => 47
 | 73 => 48
 | 74 => 43
 | 75 => 75
 | 76 => 76
 | 77 => 77
 | 81 => 87
 | 82 => 72
 | 83 => 73
 | 86 => 70
 | 92 => 88
 | 96 => 34
 | 106 => 78
 | 107 => 79
 | 108 => 80
 | 109 => 81
 | 110 => 82
 | 111 => 83
 | 112 => 84
 | 113 => 85
 | 114 => 86
 | 115 => 105
 | 116 => 106
 | 117 => 107
 | 127 => 108
 | 128 => 109
 | 129 => 110
 | 130 => 114
 | 131 => 115
 | 137 => 118
 | 138 => 119
 | 139 => 122
 | 140 => 123
 | 141 => 124
 | 158 => 7
 | 162 => 39
 | 196 => 10
 | 197 => 11
 | 199 => 13
 | 201 => 16
 | 203 => 21
 | 205 => 23
 | 206 => 24
 | 207 => 25
 | 208 => 26
 | 209 => 27
 | 211 => 29
 | 224 => 31
 | 225 => 32
 | 226 => 33
 | 227 => 53
 | 228 => 54
 | 229 => 55
 | 230 => 56
 | 231 => 57
 | 232 => 59
 | 233 => 60
 | 234 => 61
 | 236 => 63
 | 237 => 65
 | 243 => 68
 | 244 => 89
 | 245 => 90
 | 246 => 94
 | 248 => 96
 | 249 => 97
 | 250 => 98
 | 251 => 99
 | 252 => 100
 | 253 => 101
 | 259 => 103
 | 285 => 86
 | 327 => 38
 | 328 => 93
 | 329 => 22
 | 330 => 55
 | _ => 0
theorem M14 : fnOk Tryd.prog (FD, nuD) tabs0 14 p14 = true := by kernel_rfl
theorem M19 : fnOk Tryd.prog (FD, nuD) tabs0 19 p19 = true := by kernel_rfl
theorem M20 : fnOk Tryd.prog (FD, nuD) tabs0 20 p20 = true := by kernel_rfl
theorem M21 : fnOk Tryd.prog (FD, nuD) tabs0 21 p21 = true := by kernel_rfl
theorem M23 : fnOk Tryd.prog (FD, nuD) tabs0 23 p23 = true := by kernel_rfl
theorem M25 : fnOk Tryd.prog (FD, nuD) tabs0 25 p25 = true := by kernel_rfl
theorem M29 : fnOk Tryd.prog (FD, nuD) tabs0 29 p29 = true := by kernel_rfl
theorem M31 : fnOk Tryd.prog (FD, nuD) tabs0 31 p31 = true := by kernel_rfl
theorem M33 : fnOk Tryd.prog (FD, nuD) tabs0 33 p33 = true := by kernel_rfl
theorem M36 : fnOk Tryd.prog (FD, nuD) tabs0 36 p36 = true := by kernel_rfl
theorem M51 : fnOk Tryd.prog (FD, nuD) tabs0 51 p51 = true := by kernel_rfl
theorem M52 : fnOk Tryd.prog (FD, nuD) tabs0 52 p52 = true := by kernel_rfl
theorem M53 : fnOk Tryd.prog (FD, nuD) tabs0 53 p53 = true := by kernel_rfl
theorem M54 : fnOk Tryd.prog (FD, nuD) tabs0 54 p54 = true := by kernel_rfl
theorem M55 : fnOk Tryd.prog (FD, nuD) tabs0 55 p55 = true := by kernel_rfl
theorem M56 : fnOk Tryd.prog (FD, nuD) tabs0 56 p56 = true := by kernel_rfl
theorem M57 : fnOk Tryd.prog (FD, nuD) tabs0 57 p57 = true := by kernel_rfl
theorem M63 : fnOk Tryd.prog (FD, nuD) tabs0 63 p63 = true := by kernel_rfl
theorem M64 : fnOk Tryd.prog (FD, nuD) tabs0 64 p64 = true := by kernel_rfl
theorem M65 : fnOk Tryd.prog (FD, nuD) tabs0 65 p65 = true := by kernel_rfl
theorem M66 : fnOk Tryd.prog (FD, nuD) tabs0 66 p66 = true := by kernel_rfl
theorem M68 : fnOk Tryd.prog (FD, nuD) tabs0 68 p68 = true := by kernel_rfl
theorem M69 : fnOk Tryd.prog (FD, nuD) tabs0 69 p69 = true := by kernel_rfl
theorem M71 : fnOk Tryd.prog (FD, nuD) tabs0 71 p71 = true := by kernel_rfl
theorem M72 : fnOk Tryd.prog (FD, nuD) tabs0 72 p72 = true := by kernel_rfl
theorem M73 : fnOk Tryd.prog (FD, nuD) tabs0 73 p73 = true := by kernel_rfl
theorem M74 : fnOk Tryd.prog (FD, nuD) tabs0 74 p74 = true := by kernel_rfl
theorem M75 : fnOk Tryd.prog (FD, nuD) tabs0 75 p75 = true := by kernel_rfl
theorem M76 : fnOk Tryd.prog (FD, nuD) tabs0 76 p76 = true := by kernel_rfl
theorem M77 : fnOk Tryd.prog (FD, nuD) tabs0 77 p77 = true := by kernel_rfl
theorem M81 : fnOk Tryd.prog (FD, nuD) tabs0 81 p81 = true := by kernel_rfl
theorem M82 : fnOk Tryd.prog (FD, nuD) tabs0 82 p82 = true := by kernel_rfl
theorem M83 : fnOk Tryd.prog (FD, nuD) tabs0 83 p83 = true := by kernel_rfl
theorem M86 : fnOk Tryd.prog (FD, nuD) tabs0 86 p86 = true := by kernel_rfl
theorem M92 : fnOk Tryd.prog (FD, nuD) tabs0 92 p92 = true := by kernel_rfl
theorem M96 : fnOk Tryd.prog (FD, nuD) tabs0 96 p96 = true := by kernel_rfl
theorem M106 : fnOk Tryd.prog (FD, nuD) tabs0 106 p106 = true := by kernel_rfl
theorem M107 : fnOk Tryd.prog (FD, nuD) tabs0 107 p107 = true := by kernel_rfl
theorem M108 : fnOk Tryd.prog (FD, nuD) tabs0 108 p108 = true := by kernel_rfl
theorem M109 : fnOk Tryd.prog (FD, nuD) tabs0 109 p109 = true := by kernel_rfl
theorem M110 : fnOk Tryd.prog (FD, nuD) tabs0 110 p110 = true := by kernel_rfl
theorem M111 : fnOk Tryd.prog (FD, nuD) tabs0 111 p111 = true := by kernel_rfl
theorem M112 : fnOk Tryd.prog (FD, nuD) tabs0 112 p112 = true := by kernel_rfl
theorem M113 : fnOk Tryd.prog (FD, nuD) tabs0 113 p113 = true := by kernel_rfl
theorem M114 : fnOk Tryd.prog (FD, nuD) tabs0 114 p114 = true := by kernel_rfl
theorem M115 : fnOk Tryd.prog (FD, nuD) tabs0 115 p115 = true := by kernel_rfl
theorem M116 : fnOk Tryd.prog (FD, nuD) tabs0 116 p116 = true := by kernel_rfl
theorem M117 : fnOk Tryd.prog (FD, nuD) tabs0 117 p117 = true := by kernel_rfl
theorem M127 : fnOk Tryd.prog (FD, nuD) tabs0 127 p127 = true := by kernel_rfl
theorem M128 : fnOk Tryd.prog (FD, nuD) tabs0 128 p128 = true := by kernel_rfl
theorem M129 : fnOk Tryd.prog (FD, nuD) tabs0 129 p129 = true := by kernel_rfl
theorem M130 : fnOk Tryd.prog (FD, nuD) tabs0 130 p130 = true := by kernel_rfl
theorem M131 : fnOk Tryd.prog (FD, nuD) tabs0 131 p131 = true := by kernel_rfl
theorem M137 : fnOk Tryd.prog (FD, nuD) tabs0 137 p137 = true := by kernel_rfl
theorem M138 : fnOk Tryd.prog (FD, nuD) tabs0 138 p138 = true := by kernel_rfl
theorem M139 : fnOk Tryd.prog (FD, nuD) tabs0 139 p139 = true := by kernel_rfl
theorem M140 : fnOk Tryd.prog (FD, nuD) tabs0 140 p140 = true := by kernel_rfl
theorem M141 : fnOk Tryd.prog (FD, nuD) tabs0 141 p141 = true := by kernel_rfl
theorem M158 : fnOk Tryd.prog (FD, nuD) tabs0 158 p158 = true := by kernel_rfl
theorem M162 : fnOk Tryd.prog (FD, nuD) tabs0 162 p162 = true := by kernel_rfl
theorem M196 : fnOk Tryd.prog (FD, nuD) tabs0 196 p196 = true := by kernel_rfl
theorem M197 : fnOk Tryd.prog (FD, nuD) tabs0 197 p197 = true := by kernel_rfl
theorem M199 : fnOk Tryd.prog (FD, nuD) tabs0 199 p199 = true := by kernel_rfl
theorem M201 : fnOk Tryd.prog (FD, nuD) tabs0 201 p201 = true := by kernel_rfl
theorem M203 : fnOk Tryd.prog (FD, nuD) tabs0 203 p203 = true := by kernel_rfl
theorem M205 : fnOk Tryd.prog (FD, nuD) tabs0 205 p205 = true := by kernel_rfl
theorem M206 : fnOk Tryd.prog (FD, nuD) tabs0 206 p206 = true := by kernel_rfl
theorem M207 : fnOk Tryd.prog (FD, nuD) tabs0 207 p207 = true := by kernel_rfl
theorem M208 : fnOk Tryd.prog (FD, nuD) tabs0 208 p208 = true := by kernel_rfl
theorem M209 : fnOk Tryd.prog (FD, nuD) tabs0 209 p209 = true := by kernel_rfl
theorem M211 : fnOk Tryd.prog (FD, nuD) tabs0 211 p211 = true := by kernel_rfl
theorem M224 : fnOk Tryd.prog (FD, nuD) tabs0 224 p224 = true := by kernel_rfl
theorem M225 : fnOk Tryd.prog (FD, nuD) tabs0 225 p225 = true := by kernel_rfl
theorem M226 : fnOk Tryd.prog (FD, nuD) tabs0 226 p226 = true := by kernel_rfl
theorem M227 : fnOk Tryd.prog (FD, nuD) tabs0 227 p227 = true := by kernel_rfl
theorem M228 : fnOk Tryd.prog (FD, nuD) tabs0 228 p228 = true := by kernel_rfl
theorem M229 : fnOk Tryd.prog (FD, nuD) tabs0 229 p229 = true := by kernel_rfl
theorem M230 : fnOk Tryd.prog (FD, nuD) tabs0 230 p230 = true := by kernel_rfl
theorem M231 : fnOk Tryd.prog (FD, nuD) tabs0 231 p231 = true := by kernel_rfl
theorem M232 : fnOk Tryd.prog (FD, nuD) tabs0 232 p232 = true := by kernel_rfl
theorem M233 : fnOk Tryd.prog (FD, nuD) tabs0 233 p233 = true := by kernel_rfl
theorem M234 : fnOk Tryd.prog (FD, nuD) tabs0 234 p234 = true := by kernel_rfl
theorem M236 : fnOk Tryd.prog (FD, nuD) tabs0 236 p236 = true := by kernel_rfl
theorem M237 : fnOk Tryd.prog (FD, nuD) tabs0 237 p237 = true := by kernel_rfl
theorem M243 : fnOk Tryd.prog (FD, nuD) tabs0 243 p243 = true := by kernel_rfl
theorem M244 : fnOk Tryd.prog (FD, nuD) tabs0 244 p244 = true := by kernel_rfl
theorem M245 : fnOk Tryd.prog (FD, nuD) tabs0 245 p245 = true := by kernel_rfl
theorem M246 : fnOk Tryd.prog (FD, nuD) tabs0 246 p246 = true := by kernel_rfl
theorem M248 : fnOk Tryd.prog (FD, nuD) tabs0 248 p248 = true := by kernel_rfl
theorem M249 : fnOk Tryd.prog (FD, nuD) tabs0 249 p249 = true := by kernel_rfl
theorem M250 : fnOk Tryd.prog (FD, nuD) tabs0 250 p250 = true := by kernel_rfl
theorem M251 : fnOk Tryd.prog (FD, nuD) tabs0 251 p251 = true := by kernel_rfl
theorem M252 : fnOk Tryd.prog (FD, nuD) tabs0 252 p252 = true := by kernel_rfl
theorem M253 : fnOk Tryd.prog (FD, nuD) tabs0 253 p253 = true := by kernel_rfl
theorem M259 : fnOk Tryd.prog (FD, nuD) tabs0 259 p259 = true := by kernel_rfl
theorem M285 : fnOk Tryd.prog (FD, nuD) tabs0 285 p285 = true := by kernel_rfl
theorem M327 : fnOk Tryd.prog (FD, nuD) tabs0 327 p327 = true := by kernel_rfl
theorem M328 : fnOk Tryd.prog (FD, nuD) tabs0 328 p328 = true := by kernel_rfl
theorem M329 : fnOk Tryd.prog (FD, nuD) tabs0 329 p329 = true := by kernel_rfl
theorem M330 : fnOk Tryd.prog (FD, nuD) tabs0 330 p330 = true := by kernel_rfl
theorem FD_ok (g : Nat) (p : PF) (h : FD g = some p) : fnOk Tryd.prog (FD, nuD) tabs0 g p = true ∧ FF g = some p := by
 unfold FD at h
 split at h
 ·cases h; exact ⟨M14, rfl⟩
 ·cases h; exact ⟨M19, rfl⟩
 ·cases h; exact ⟨M20, rfl⟩
 ·cases h; exact ⟨M21, rfl⟩
 ·cases h; exact ⟨M23, rfl⟩
 ·cases h; exact ⟨M25, rfl⟩
 ·cases h; exact ⟨M29, rfl⟩
 ·cases h; exact ⟨M31, rfl⟩
 ·cases h; exact ⟨M33, rfl⟩
 ·cases h; exact ⟨M36, rfl⟩
 ·cases h; exact ⟨M51, rfl⟩
 ·cases h; exact ⟨M52, rfl⟩
 ·cases h; exact ⟨M53, rfl⟩
 ·cases h; exact ⟨M54, rfl⟩
 ·cases h; exact ⟨M55, rfl⟩
 ·cases h; exact ⟨M56, rfl⟩
 ·cases h; exact ⟨M57, rfl⟩
 ·cases h; exact ⟨M63, rfl⟩
 ·cases h; exact ⟨M64, rfl⟩
 ·cases h; exact ⟨M65, rfl⟩
 ·cases h; exact ⟨M66, rfl⟩
 ·cases h; exact ⟨M68, rfl⟩
 ·cases h; exact ⟨M69, rfl⟩
 ·cases h; exact ⟨M71, rfl⟩
 ·cases h; exact ⟨M72, rfl⟩
 ·cases h; exact ⟨M73, rfl⟩
 ·cases h; exact ⟨M74, rfl⟩
 ·cases h; exact ⟨M75, rfl⟩
 ·cases h; exact ⟨M76, rfl⟩
 ·cases h; exact ⟨M77, rfl⟩
 ·cases h; exact ⟨M81, rfl⟩
 ·cases h; exact ⟨M82, rfl⟩
 ·cases h; exact ⟨M83, rfl⟩
 ·cases h; exact ⟨M86, rfl⟩
 ·cases h; exact ⟨M92, rfl⟩
 ·cases h; exact ⟨M96, rfl⟩
 ·cases h; exact ⟨M106, rfl⟩
 ·cases h; exact ⟨M107, rfl⟩
 ·cases h; exact ⟨M108, rfl⟩
 ·cases h; exact ⟨M109, rfl⟩
 ·cases h; exact ⟨M110, rfl⟩
 ·cases h; exact ⟨M111, rfl⟩
 ·cases h; exact ⟨M112, rfl⟩
 ·cases h; exact ⟨M113, rfl⟩
 ·cases h; exact ⟨M114, rfl⟩
 ·cases h; exact ⟨M115, rfl⟩
 ·cases h; exact ⟨M116, rfl⟩
 ·cases h; exact ⟨M117, rfl⟩
 ·cases h; exact ⟨M127, rfl⟩
 ·cases h; exact ⟨M128, rfl⟩
 ·cases h; exact ⟨M129, rfl⟩
 ·cases h; exact ⟨M130, rfl⟩
 ·cases h; exact ⟨M131, rfl⟩
 ·cases h; exact ⟨M137, rfl⟩
 ·cases h; exact ⟨M138, rfl⟩
 ·cases h; exact ⟨M139, rfl⟩
 ·cases h; exact ⟨M140, rfl⟩
 ·cases h; exact ⟨M141, rfl⟩
 ·cases h; exact ⟨M158, rfl⟩
 ·cases h; exact ⟨M162, rfl⟩
 ·cases h; exact ⟨M196, rfl⟩
 ·cases h; exact ⟨M197, rfl⟩
 ·cases h; exact ⟨M199, rfl⟩
 ·cases h; exact ⟨M201, rfl⟩
 ·cases h; exact ⟨M203, rfl⟩
 ·cases h; exact ⟨M205, rfl⟩
 ·cases h; exact ⟨M206, rfl⟩
 ·cases h; exact ⟨M207, rfl⟩
 ·cases h; exact ⟨M208, rfl⟩
 ·cases h; exact ⟨M209, rfl⟩
 ·cases h; exact ⟨M211, rfl⟩
 ·cases h; exact ⟨M224, rfl⟩
 ·cases h; exact ⟨M225, rfl⟩
 ·cases h; exact ⟨M226, rfl⟩
 ·cases h; exact ⟨M227, rfl⟩
 ·cases h; exact ⟨M228, rfl⟩
 ·cases h; exact ⟨M229, rfl⟩
 ·cases h; exact ⟨M230, rfl⟩
 ·cases h; exact ⟨M231, rfl⟩
 ·cases h; exact ⟨M232, rfl⟩
 ·cases h; exact ⟨M233, rfl⟩
 ·cases h; exact ⟨M234, rfl⟩
 ·cases h; exact ⟨M236, rfl⟩
 ·cases h; exact ⟨M237, rfl⟩
 ·cases h; exact ⟨M243, rfl⟩
 ·cases h; exact ⟨M244, rfl⟩
 ·cases h; exact ⟨M245, rfl⟩
 ·cases h; exact ⟨M246, rfl⟩
 ·cases h; exact ⟨M248, rfl⟩
 ·cases h; exact ⟨M249, rfl⟩
 ·cases h; exact ⟨M250, rfl⟩
 ·cases h; exact ⟨M251, rfl⟩
 ·cases h; exact ⟨M252, rfl⟩
 ·cases h; exact ⟨M253, rfl⟩
 ·cases h; exact ⟨M259, rfl⟩
 ·cases h; exact ⟨M285, rfl⟩
 ·cases h; exact ⟨M327, rfl⟩
 ·cases h; exact ⟨M328, rfl⟩
 ·cases h; exact ⟨M329, rfl⟩
 ·cases h; exact ⟨M330, rfl⟩
 ·cases h
theorem followsD : Tryd.prog.follows .mixedOrders = true := by kernel_rfl
theorem callsD : CallsOk Tryd.prog (FD, nuD) tabs0 (R FF) := R_ok followsD FD_ok
end Go.Pe
namespace Go.Proofs.YtomicjfjbfkikaaDoor.extremeSwings
open Go.Pe
open Go.ChangeShapes Go.WideShapes Go.ChangeAt Go.RowKit
theorem own : ownKnob Tryd.prog.godebug = none := by kernel_rfl
theorem laidOut : laidOutB Tryd.prog = true := by kernel_rfl
def laid : List (String × DataW Unit) := [("math/bits.deBruijn64tab", Rows.laid_math_bits_deBruijn64tab)]
def tz : List Int := tab0.map fun | .i _ n => n | _ => 0
theorem tab_rv {W : World} (h : laidMetH Tryd.prog laid W) : Rv W (fun _ => False) Rho.none (.tp tab0 0) (.pointer (some ⟨0, 0, none⟩)) := by
 rw [MakeChecks.laidMetH_plain _ _ _ (by kernel_rfl)] at h
 obtain ⟨ps, ⟨g, t, cs, fuel, p, q, hg, ht, hv, hd, _, _⟩, _, _⟩ := h
 obtain rfl := Option.some.inj ((show Tryd.prog.globalNamed "math/bits.deBruijn64tab" = some 0 by kernel_rfl).symm.trans hg)
 obtain rfl := Option.some.inj ((show (Tryd.prog.globals[0]?).map (·.type) = some 160 by kernel_rfl).symm.trans ht)
 obtain ⟨xs, m, _, ex, _, hl, hel⟩ := DataW.trod_array Tryd.underlying160 hd
 have cE : Tryd.prog.cellsOf 5 = 1 := by kernel_rfl
 have hlen : tz.length = 64 := by decide
 have e0 : (xs.map (·.1)) = tz.map fun n => .lit (.int .u8 n) := (DataW.agg.inj (Prod.mk.inj ex).1).symm
 have cell : ∀ r, r < 64 → W.cell? ⟨0, r, none⟩ = some (.int .u8 (tz.getD r 0)) := by
  intro r hr
  have hE := hel r hr
  rw [cE, Nat.mul_one, ze (by omega)] at hE
  obtain ⟨z, e1, e2, _⟩ := DataW.trod_int Tryd.underlying5 hE
  have e4 : (xs.map (·.1))[r]? = (tz.map fun n => (DataW.lit (.int .u8 n) : DataW Unit))[r]? := by rw [e0]
  rw [List.getElem?_map, List.getElem?_map, ze (by omega : r < xs.length), ze (by omega : r < tz.length), e2] at e4
  have hz : z = tz.getD r 0 := by
   simp only [Option.map_some, Option.some.injEq, DataW.lit.injEq, Lit.int.injEq, true_and] at e4
   rw [e4, List.getD, ze (by omega : r < tz.length)]; rfl
  rw [World.var?_cell hg hv r, ← hz]
  have : cs.toList[r]? = some (.int .u8 z) := by
   have h0 : ((cs.toList.drop r).take 1)[0]? = some (.int .u8 z) := by rw [e1]; rfl
   simpa using h0
  simpa using this
 have hb : 0 < W.heap.size := by
  have h0 := cell 0 (by decide)
  rcases Nat.lt_or_ge 0 W.heap.size with h | h
  ·exact h
  ·unfold World.cell? at h0; rw [Array.getElem?_eq_none h] at h0; cases h0
 refine Rv.tp (o := 0) (base := 0) (fun c => .int .u8 (tz.getD c 0)) (fun h => h) hb (fun c hc => ?_) fun c hc => ?_
 ·rw [zF]; exact ⟨cell c hc, rfl⟩
 ·have e : tab0 = tz.map (AV.i .u8) := rfl
  have hc' : c < tz.length := by rw [hlen]; exact hc
  rw [e, za, List.getElem?_map, za, ze hc']
  exact Rv.i
set_option maxRecDepth 100000 in
theorem lifted (os : Os) (started : os.Started) (H : Type) (enc : TypeId × Value → H) :
  ReturnsInHanded {} Tryd.checked os 7 .any (fun w args => (Rows.extremeSwingsSpec.pre enc Tryd.prog Tryd.f7 Rows.extremeSwingsRow.domain false w args ∧ laidMetH Tryd.prog laid w) ∧ sizedMet enc Tryd.prog Tryd.f7 (OpenSpec.ofChange Rows.extremeSwingsSpec) false w args) (Rows.extremeSwingsSpec.post enc Tryd.prog Tryd.f7 false true false false) := by
 refine returnsInHanded_of_change_and (C := Tryd.checked) (X := fun w _ => laidMetH Tryd.prog laid w) (fun _ _ _ hh h => h.of_heap hh) own started (by kernel_rfl) Tryd.func7
  (ChangeSpec.witness_shaped (enc := enc) (C := Tryd.checked) (os := os) (X := fun w _ => laidMetH Tryd.prog laid w) false (World.laidAll Tryd.prog os laid) #[.agg #[.int .i64 0, .slice none 0 0], .slice none 0 0, .int .u64 0, .slice none 0 0] 8 (World.laidAll_os _ _ _)
   (World.shaped_of_ZipB (by kernel_rfl) (by kernel_rfl)) (by kernel_rfl) (by kernel_rfl) (by kernel_rfl) (by rw [MakeChecks.laidMetH_plain _ _ _ (by kernel_rfl)]; exact laidMet_laidAll _ (by kernel_rfl) (by kernel_rfl))) ?_
 intro W base args ds gs before hval0 hW hcnd hsz0 hL _
 have hval : ∀ (j : Nat) t v, Tryd.f7.params[j]? = some t → args[j]? = some v → Value.okWide Tryd.prog W .any base t v := hval0
 have hW' := hW
 obtain ⟨p, q, hA0, hV, rfl, hfz, hnd⟩ := hW
 have hA : DataW.TrodAll enc Tryd.prog W 0 (fun _ => true) true Tryd.f7.params.toList args.toList ds p := hA0
 rw [Tryd.params7] at hA hval
 obtain ⟨v0, vs0, d0, ds0, pl0, ql0, hargs, rfl, rfl, h0, r0⟩ := trodAll_cons hA
 obtain ⟨v1, vs1, d1, ds1, pl1, ql1, rfl, rfl, rfl, h1, r1⟩ := trodAll_cons r0
 obtain ⟨v2, vs2, d2, ds2, pl2, ql2, rfl, rfl, rfl, h2, r2⟩ := trodAll_cons r1
 obtain ⟨v3, vs3, d3, ds3, pl3, ql3, rfl, rfl, rfl, h3, r3⟩ := trodAll_cons r2
 obtain ⟨rfl, rfl, rfl⟩ := trodAll_nil r3
 obtain rfl : args = #[v0, v1, v2, v3] := by cases args; simp_all
 obtain ⟨rfl, rfl⟩ := trodVars_none hV
 have lt0 : ∀ x ∈ pl0, x.block < W.heap.size := by obtain ⟨m, hm⟩ := h0; exact DataW.trod_lt m _ _ _ hm
 obtain ⟨acs0, la0, fa0, rv0⟩ := arg_rv (n := 12) (ks := kM) (hval 0 24 v0 rfl rfl) h0 (by kernel_rfl)
 rw [show isStr Tryd.prog 24 = true by kernel_rfl] at rv0
 obtain ⟨x0, rfl, ok0⟩ := open_M ⟨la0, fa0⟩
 have lt1 : ∀ x ∈ pl1, x.block < W.heap.size := by obtain ⟨m, hm⟩ := h1; exact DataW.trod_lt m _ _ _ hm
 obtain ⟨acs1, la1, fa1, rv1⟩ := arg_rv (n := 12) (ks := [.sl kC]) (hval 1 35 v1 rfl rfl) h1 (by kernel_rfl)
 rw [show isStr Tryd.prog 35 = false by kernel_rfl] at rv1
 obtain ⟨y1, rfl, fy1⟩ := Fits.one ⟨la1, fa1⟩
 obtain ⟨x1, rfl, ok1⟩ := open_LC fy1
 have lt2 : ∀ x ∈ pl2, x.block < W.heap.size := by obtain ⟨m, hm⟩ := h2; exact DataW.trod_lt m _ _ _ hm
 obtain ⟨acs2, la2, fa2, rv2⟩ := arg_rv (n := 12) (ks := [.int .u64]) (hval 2 60 v2 rfl rfl) h2 (by kernel_rfl)
 rw [show isStr Tryd.prog 60 = false by kernel_rfl] at rv2
 obtain ⟨y2, rfl, fy2⟩ := Fits.one ⟨la2, fa2⟩
 obtain ⟨x2, rfl, ok2⟩ := open_u64 fy2
 have lt3 : ∀ x ∈ pl3, x.block < W.heap.size := by obtain ⟨m, hm⟩ := h3; exact DataW.trod_lt m _ _ _ hm
 obtain ⟨acs3, la3, fa3, rv3⟩ := arg_rv (n := 12) (ks := [.sl kC]) (hval 3 35 v3 rfl rfl) h3 (by kernel_rfl)
 rw [show isStr Tryd.prog 35 = false by kernel_rfl] at rv3
 obtain ⟨y3, rfl, fy3⟩ := Fits.one ⟨la3, fa3⟩
 obtain ⟨x3, rfl, ok3⟩ := open_LC fy3
 clear hA0 hval0 hsz0
 have hlaw := law_ExtremeSwings x0 ok0 x1 ok1 x2 ok2 x3 ok3
 have hx : ∀ j, j < 4 → Rv W (fun _ => False) Rho.none ([AV.agg (eM x0), AV.l 4 (x1.map eC), AV.i .u64 x2, AV.l 4 (x3.map eC)].getD j .junk) (#[v0, v1, v2, v3].getD j undef) := by
  intro j hj
  match j, hj with
  | 0, _ => exact rv0
  | 1, _ => exact rv1
  | 2, _ => exact rv2
  | 3, _ => exact rv3
 refine (law_true (F := (FD, nuD)) callsD (g := 158) (p := p158) rfl rfl (by decide) (by kernel_rfl) hlaw (w := W) (vs := #[v0, v1, v2, v3]) (fun q hq => by obtain rfl := List.mem_singleton.1 hq; exact tab_rv hL) rfl hx).mono fun e W' ⟨he, bel⟩ => ?_
 subst he
 exact ⟨_, rfl, _, _, _, [], _, [], hW', trodAll_mk1 (shut_bool Tryd.underlying4 _), (trodAll_cons_mk (Below.trod laidOut (by kernel_rfl) (of_decide_eq_true (by kernel_rfl)) h0 bel lt0) (trodAll_cons_mk (Below.trod laidOut (by kernel_rfl) (of_decide_eq_true (by kernel_rfl)) h1 bel lt1) (trodAll_cons_mk (Below.trod laidOut (by kernel_rfl) (of_decide_eq_true (by kernel_rfl)) h2 bel lt2) (trodAll_cons_mk (Below.trod laidOut (by kernel_rfl) (of_decide_eq_true (by kernel_rfl)) h3 bel lt3) trodAll_mk0)))), rfl, bel.frame _, fun h => by cases h⟩
theorem over : Rows.extremeSwingsRow.holds Tryd.pinned (OpenSpec.ofChange Rows.extremeSwingsSpec) :=
 OpenClaim.holds_of_wide 7 Tryd.f7 rfl rfl rfl rfl rfl rfl rfl ⟨rfl, rfl, rfl, rfl, rfl⟩ rfl rfl rfl rfl rfl (by kernel_rfl) Tryd.func7 (by kernel_rfl)
  (of_decide_eq_true (by kernel_rfl)) (by unfold Func.isWrapper; first | (rw [if_pos (by decide +kernel)]; kernel_rfl) | (rw [if_neg (by decide +kernel)]; exact ⟨rfl, rfl⟩))
  (fun os started H enc _ => lifted os started H enc)
theorem proved : Rows.ExtremeSwingsCardSaid :=
 Claim7.holds_tied_plain_at .later [] [.data] true (true, "055af2870a081aca155dd7d3832794b74fb70f238d6216e595e54682dc256be2") false over (fun _ h => by cases h) (by kernel_rfl) (fun _ h => by cases h) extremeSwings_row_tie rfl ⟨rfl, rfl⟩ (by kernel_rfl) rfl
  (fun f fn hf hfn => by
   obtain rfl : f = 7 := Option.some.inj ((show Tryd.prog.funcNamed "dendron/dendronlaw24.ExtremeSwings" = some 7 by kernel_rfl).symm.trans hf) |>.symm
   obtain rfl : fn = Tryd.f7 := (Option.some.inj (Tryd.func7.symm.trans hfn)).symm
   exact ⟨by kernel_rfl, fun j t ht => by
    rw [Tryd.params7] at ht
    have hm : t ∈ [24, 35, 60, 35] := by simpa using Array.mem_of_getElem? ht
    have hall : ([24, 35, 60, 35].all fun u => !Tryd.prog.wantsStandIn u) = true := by kernel_rfl
    exact (show Tryd.prog.wantsStandIn t = false by simpa using List.all_eq_true.1 hall t hm)⟩)
  (by kernel_rfl)
#print axioms proved
end Go.Proofs.YtomicjfjbfkikaaDoor.extremeSwings
namespace Go.Proofs.YtomicjfjbfkikaaDoor
theorem extremeSwings_holds : Rows.ExtremeSwingsCardSaid := extremeSwings.proved
end Go.Proofs.YtomicjfjbfkikaaDoor
